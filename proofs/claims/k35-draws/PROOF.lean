import PyProof.Rows.All
import HandS.ForMost
import HandS.Flow
import HandS.Zip
import HandS.TupAny
import HandS.Deep
import HandS.IsInst
import HandS.Wide
import HandS.WideBits
import HandS.WideMore
import HandS.Gcd
import HandS.SortInts
import HandS.DictTup
import HandS.Style
import HandS.TupLe
import HandS.HeadEnd
import HandS.HeadHook1
import HandS.HeadHook2
import HandS.EndBits
import HandS.Head0
import HandS.Head1
import HandS.Head2
import HandS.Head3
import HandS.Small
import HandS.Exc
import HandS.CallSlots
import HandS.WordsExc
import HandS.Zip0
import KE.DataMinMax
import KE.KTupSum
import HandS.Conv
import HandS.SetFor
import PySem.Challenge.RW_watchedbylot_k35_draws
set_option Elab.async false
set_option linter.all false
set_option maxRecDepth 100000
set_option maxHeartbeats 4000000
/-! The data layer, part 1: pure values, the store, what represents them. -/
namespace DL
open PySem PySem.Spec PyProof.Rows L2

/-- a pure value; kup: a tuple that the module's top has made; rol: a list that nobody writes; ref n: the n-th cell of the store; fn i: the i-th def -/
inductive D where
  | non | bl (b : Bool) | int (i : Int) | str (z : Str) | tup (xs : List D) | kup (xs : List D) | rol (xs : List D) | ref (n : Nat) | fn (i : Nat)

/-- a mutable cell: a list, a dict -/
inductive Cell where
  | lst (xs : List D) | dK (kvs : List (Key × D)) | dT (kvs : List (List Key × D))

abbrev Env := List (Option D)
abbrev Mem := List Cell
abbrev Po := D → Mem → Prop
abbrev XP := Nat → List D → Mem → Prop
structure Ctx where
  call : Nat → XP → List D → Mem → Po → Prop
  ex : Env → XP
abbrev DE := Ctx → Env → Mem → Po → Prop
abbrev DT := Ctx → Env → Mem → (Bool → Mem → Prop) → Prop
abbrev DA := Ctx → Env → Mem → (List D → Mem → Prop) → Prop
structure DEnds where
  nx : Env → Mem → Prop
  rt : Po
  bk : Env → Mem → Prop := fun _ _ => False
  ct : Env → Mem → Prop := fun _ _ => False
abbrev DS := Ctx → DEnds → Env → Mem → Prop
abbrev DG := Ctx → D → Env → Mem → (Env → Mem → Prop) → Prop
/-- what a loop walks: the items, and what must stay true of the store meanwhile -/
abbrev DI := Ctx → Env → Mem → (List D → (Mem → Prop) → Mem → Prop) → Prop

/-! ### representation -/
/-- where the defs stand; the heap and the cells' addresses at the entry -/
structure Org where
  fn : Nat → Addr
  cls : Nat → Addr
  flds : Nat → List Str
  H0 : Hp
  α0 : List Addr
mutual
inductive Rp (K : PySem.W.Frag) (fa : Org) (α : List Addr) (H : Hp) : V → D → Prop
  | non : Rp K fa α H .non .non
  | bl (b : Bool) : Rp K fa α H (.bl b) (.bl b)
  | int (i : Int) : Rp K fa α H (.int i) (.int i)
  | str (z : Str) : Rp K fa α H (.str z) (.str z)
  | tup {a : Addr} {vs : List V} {ds : List D} (s : H a = some (.tup vs)) (l : vs.length ≤ sizeLine) (r : Rps K fa α H vs ds) : Rp K fa α H (.ref a) (.tup ds)
  | kup {a : Addr} {vs : List V} {ds : List D} (s : ∀ G : Hp, SqT K G a vs) (l : vs.length ≤ sizeLine) (r : Rps K fa α H vs ds) : Rp K fa α H (.ref a) (.kup ds)
  | rol {a : Addr} {vs : List V} {ds : List D} (s : (∃ o, H a = some (.frz o (.lst vs))) ∨ ∀ G : Hp, SqL K G a vs) (l : vs.length ≤ sizeLine) (r : Rps K fa α H vs ds) : Rp K fa α H (.ref a) (.rol ds)
  | ref {n : Nat} {a : Addr} (e : α[n]? = some a) : Rp K fa α H (.ref a) (.ref n)
  | fn (i : Nat) : Rp K fa α H (.ref (fa.fn i)) (.fn i)
inductive Rps (K : PySem.W.Frag) (fa : Org) (α : List Addr) (H : Hp) : List V → List D → Prop
  | nil : Rps K fa α H [] []
  | cons {v : V} {vs : List V} {d : D} {ds : List D} (h : Rp K fa α H v d) (t : Rps K fa α H vs ds) : Rps K fa α H (v :: vs) (d :: ds)
end

/-- what values lean on stays -/
structure Gr (K : PySem.W.Frag) (H H' : Hp) (α α' : List Addr) : Prop where
  tup : ∀ a vs, H a = some (.tup vs) → H' a = some (.tup vs)
  frz : ∀ a o vs, H a = some (.frz o (.lst vs)) → H' a = some (.frz o (.lst vs))
  pre : ∃ β, α' = α ++ β
/-- how the heap and the cells' addresses may go on -/
structure Ext (K : PySem.W.Frag) (H H' : Hp) (α α' : List Addr) : Prop extends Gr K H H' α α' where
  keep : ∀ a o, a ∉ α → H a = some o → H' a = some o
  there : ∀ a o, H a = some o → ∃ o', H' a = some o'
  fresh : ∀ b ∈ α', b ∈ α ∨ H b = none

section
variable {K : PySem.W.Frag} {fa : Org} {α α' α'' : List Addr} {H H' H'' : Hp} {v : V} {d : D} {vs : List V} {ds : List D}

theorem Ext.refl : Ext K H H α α := ⟨⟨fun _ _ h => h, fun _ _ _ h => h, ⟨[], by simp⟩⟩, fun _ _ _ h => h, fun _ o h => ⟨o, h⟩, fun _ h => .inl h⟩
theorem Ext.trans (a : Ext K H H' α α') (b : Ext K H' H'' α' α'') : Ext K H H'' α α'' where
  tup := fun x vs h => b.tup x vs (a.tup x vs h)
  frz := fun x o vs h => b.frz x o vs (a.frz x o vs h)
  pre := by
    obtain ⟨β, rfl⟩ := a.pre
    obtain ⟨γ, rfl⟩ := b.pre
    exact ⟨β ++ γ, by simp⟩
  keep := fun x o hx h => b.keep x o (fun z => (a.fresh x z).elim hx fun n => by rw [n] at h; cases h) (a.keep x o hx h)
  there := fun x o h => let ⟨o', h'⟩ := a.there x o h; b.there x o' h'
  fresh := fun x hx => (b.fresh x hx).elim (a.fresh x) fun n => by
    cases q : H x with
    | none => exact .inr rfl
    | some o =>
      obtain ⟨o', h'⟩ := a.there x o q
      rw [n] at h'; cases h'
theorem Gr.at (e : Gr K H H' α α') {n : Nat} {a : Addr} (h : α[n]? = some a) : α'[n]? = some a := by
  obtain ⟨β, rfl⟩ := e.pre
  rw [List.getElem?_append_left (List.getElem?_eq_some_iff.mp h).1]
  exact h
/-- a new object at p -/
theorem sqT_upd {p : Addr} {o : HO} {a : Addr} (hp : H p = none) (h : SqT K H a vs) : SqT K (upd H p o) a vs := by
  rcases h with (h | ⟨q, h⟩) | h
  · exact .inl (.inl (by rw [upd_ne (ne_of_none h hp)]; exact h))
  · exact .inl (.inr ⟨q, by rw [upd_ne (ne_of_none h hp)]; exact h⟩)
  · exact .inr h
theorem sqL_upd {p : Addr} {o : HO} {a : Addr} (hp : H p = none) (h : SqL K H a vs) : SqL K (upd H p o) a vs := by
  rcases h with (h | ⟨q, h⟩) | h
  · exact .inl (.inl (by rw [upd_ne (ne_of_none h hp)]; exact h))
  · exact .inl (.inr ⟨q, by rw [upd_ne (ne_of_none h hp)]; exact h⟩)
  · exact .inr h
theorem Ext.new {p : Addr} {o : HO} (hp : H p = none) : Ext K H (upd H p o) α α where
  tup := fun a vs h => by rw [upd_ne (ne_of_none h hp)]; exact h
  frz := fun a o vs h => by rw [upd_ne (ne_of_none h hp)]; exact h
  pre := ⟨[], by simp⟩
  keep := fun a u _ h => by rw [upd_ne (ne_of_none h hp)]; exact h
  there := fun a u h => ⟨u, by rw [upd_ne (ne_of_none h hp)]; exact h⟩
  fresh := fun _ h => .inl h
/-- a new cell at p -/
theorem Ext.cell {p : Addr} {o : HO} (hp : H p = none) : Ext K H (upd H p o) α (α ++ [p]) where
  tup := fun a vs h => by rw [upd_ne (ne_of_none h hp)]; exact h
  frz := fun a o vs h => by rw [upd_ne (ne_of_none h hp)]; exact h
  pre := ⟨[p], rfl⟩
  keep := fun a u _ h => by rw [upd_ne (ne_of_none h hp)]; exact h
  there := fun a u h => ⟨u, by rw [upd_ne (ne_of_none h hp)]; exact h⟩
  fresh := fun b hb => by
    rcases List.mem_append.mp hb with h | h
    · exact .inl h
    · have e : b = p := by simpa using h
      subst e
      exact .inr hp
/-- a cell that is no tuple is written -/
theorem Ext.write {p : Addr} {u o : HO} (hp : H p = some u) (ha : p ∈ α) (hu : Mut (some u)) : Ext K H (upd H p o) α α where
  tup := fun a vs h => by rw [upd_ne (ne_of h hp (fun z => by subst z; exact hu))]; exact h
  frz := fun a o vs h => by rw [upd_ne (ne_of h hp (fun z => by subst z; exact hu))]; exact h
  pre := ⟨[], by simp⟩
  keep := fun a w hn h => by
    have z : a ≠ p := fun z => by subst z; exact hn ha
    rw [upd_ne z]; exact h
  there := fun a w h => by
    by_cases z : a = p
    · subst z; exact ⟨o, upd_same⟩
    · exact ⟨w, by rw [upd_ne z]; exact h⟩
  fresh := fun _ h => .inl h

mutual
theorem Rp.grow (e : Gr K H H' α α') : ∀ {v : V} {d : D}, Rp K fa α H v d → Rp K fa α' H' v d
  | _, _, .non => .non
  | _, _, .bl b => .bl b
  | _, _, .int i => .int i
  | _, _, .str z => .str z
  | _, _, .tup s l r => .tup (e.tup _ _ s) l (Rps.grow e r)
  | _, _, .kup s l r => .kup s l (Rps.grow e r)
  | _, _, .rol s l r => .rol (s.imp (fun ⟨o, z⟩ => ⟨o, e.frz _ _ _ z⟩) id) l (Rps.grow e r)
  | _, _, .ref h => .ref (e.at h)
  | _, _, .fn i => .fn i
theorem Rps.grow (e : Gr K H H' α α') : ∀ {vs : List V} {ds : List D}, Rps K fa α H vs ds → Rps K fa α' H' vs ds
  | _, _, .nil => .nil
  | _, _, .cons h t => .cons (Rp.grow e h) (Rps.grow e t)
end
theorem Rp.mono (e : Ext K H H' α α') {v : V} {d : D} (h : Rp K fa α H v d) : Rp K fa α' H' v d := Rp.grow e.toGr h
theorem Rps.mono (e : Ext K H H' α α') {vs : List V} {ds : List D} (h : Rps K fa α H vs ds) : Rps K fa α' H' vs ds := Rps.grow e.toGr h
theorem Rps.length : ∀ {vs : List V} {ds : List D}, Rps K fa α H vs ds → vs.length = ds.length
  | _, _, .nil => rfl
  | _, _, .cons _ t => congrArg (· + 1) (Rps.length t)
theorem Rps.get : ∀ {vs : List V} {ds : List D} {i : Nat} {d : D}, Rps K fa α H vs ds → ds[i]? = some d → ∃ v, vs[i]? = some v ∧ Rp K fa α H v d
  | _, _, _, _, .nil, e => by simp at e
  | _, _, 0, _, .cons h _, e => by simp at e; subst e; exact ⟨_, rfl, h⟩
  | _, _, i + 1, d, .cons _ t, e => by
    obtain ⟨v, h1, h2⟩ := Rps.get (i := i) (d := d) t (by simpa using e)
    exact ⟨v, by simpa using h1, h2⟩
theorem Rps.getV : ∀ {vs : List V} {ds : List D} {i : Nat} {v : V}, Rps K fa α H vs ds → vs[i]? = some v → ∃ d, ds[i]? = some d ∧ Rp K fa α H v d
  | _, _, _, _, .nil, e => by simp at e
  | _, _, 0, _, .cons h _, e => by simp at e; subst e; exact ⟨_, rfl, h⟩
  | _, _, i + 1, d, .cons _ t, e => by
    obtain ⟨v, h1, h2⟩ := Rps.getV (i := i) (v := d) t (by simpa using e)
    exact ⟨v, by simpa using h1, h2⟩
theorem Rps.append : ∀ {vs ws : List V} {ds es : List D}, Rps K fa α H vs ds → Rps K fa α H ws es → Rps K fa α H (vs ++ ws) (ds ++ es)
  | _, _, _, _, .nil, s => s
  | _, _, _, _, .cons r t, s => .cons r (Rps.append t s)
theorem Rps.take : ∀ {vs : List V} {ds : List D} (n : Nat), Rps K fa α H vs ds → Rps K fa α H (vs.take n) (ds.take n)
  | _, _, 0, _ => .nil
  | _, _, _ + 1, .nil => .nil
  | _, _, n + 1, .cons r t => .cons r (Rps.take n t)
theorem Rps.drop : ∀ {vs : List V} {ds : List D} (n : Nat), Rps K fa α H vs ds → Rps K fa α H (vs.drop n) (ds.drop n)
  | _, _, 0, r => r
  | _, _, _ + 1, .nil => .nil
  | _, _, n + 1, .cons _ t => Rps.drop n t
theorem Rps.set {v : V} {d : D} (r : Rp K fa α H v d) : ∀ {vs : List V} {ds : List D} (i : Nat), Rps K fa α H vs ds → Rps K fa α H (vs.set i v) (ds.set i d)
  | _, _, _, .nil => .nil
  | _, _, 0, .cons _ t => .cons r t
  | _, _, i + 1, .cons q t => .cons q (Rps.set r i t)
theorem Rps.ints : ∀ (ns : List Int), Rps K fa α H (ns.map V.int) (ns.map D.int)
  | [] => .nil
  | n :: r => .cons (.int n) (Rps.ints r)
theorem Rps.rev {vs : List V} {ds : List D} (h : Rps K fa α H vs ds) : Rps K fa α H vs.reverse ds.reverse := by
  induction vs generalizing ds with
  | nil => cases h; exact .nil
  | cons v vs ih =>
    cases h with
    | cons h t =>
      rw [List.reverse_cons, List.reverse_cons]
      exact (ih t).append (.cons h .nil)
theorem Rps.rep {vs : List V} {ds : List D} (h : Rps K fa α H vs ds) : ∀ n : Nat, Rps K fa α H (List.replicate n vs).flatten (List.replicate n ds).flatten
  | 0 => .nil
  | n + 1 => by
    rw [List.replicate_succ, List.replicate_succ, List.flatten_cons, List.flatten_cons]
    exact h.append (Rps.rep h n)
theorem Rps.erase : ∀ {vs : List V} {ds : List D} (n : Nat), Rps K fa α H vs ds → Rps K fa α H (vs.eraseIdx n) (ds.eraseIdx n)
  | _, _, _, .nil => .nil
  | _, _, 0, .cons _ t => t
  | _, _, n + 1, .cons r t => .cons r (Rps.erase n t)
theorem Rps.dropLast {vs : List V} {ds : List D} (h : Rps K fa α H vs ds) : Rps K fa α H vs.dropLast ds.dropLast := by
  rw [List.dropLast_eq_take, List.dropLast_eq_take, h.length]
  exact h.take _
theorem Rps.snoc {vs : List V} {ds : List D} (h : Rps K fa α H vs ds) (r : Rp K fa α H v d) : Rps K fa α H (vs ++ [v]) (ds ++ [d]) := h.append (.cons r .nil)
end

/-! ### cells -/
abbrev KR (K : PySem.W.Frag) (fa : Org) (α : List Addr) (H : Hp) {κ : Type} (p : κ × V) (q : κ × D) : Prop := p.1 = q.1 ∧ Rp K fa α H p.2 q.2
def CellR (K : PySem.W.Frag) (fa : Org) (α : List Addr) (H : Hp) (a : Addr) : Cell → Prop
  | .lst xs => ∃ vs, H a = some (.lst vs) ∧ vs.length ≤ sizeLine ∧ Rps K fa α H vs xs
  | .dK kvs => ∃ ws, H a = some (.dK ws) ∧ Paired (KR K fa α H) ws kvs
  | .dT kvs => ∃ ws, H a = some (.dT ws) ∧ Paired (KR K fa α H) ws kvs
structure StR (K : PySem.W.Frag) (fa : Org) (α : List Addr) (H : Hp) (M : Mem) : Prop where
  len : α.length = M.length
  nod : α.Nodup
  cell : ∀ (n : Nat) (c : Cell) (a : Addr), M[n]? = some c → α[n]? = some a → CellR K fa α H a c
  org : Ext K fa.H0 H fa.α0 α
def EnvR (K : PySem.W.Frag) (fa : Org) (α : List Addr) (H : Hp) (σ : L2.St) (ρ : Env) : Prop :=
  σ.length = ρ.length ∧ ∀ (i : Nat) (d : D), ρ[i]? = some (some d) → ∃ v, σ[i]? = some (some v) ∧ Rp K fa α H v d

section
variable {K : PySem.W.Frag} {fa : Org} {α α' : List Addr} {H H' : Hp} {M : Mem} {σ : L2.St} {ρ : Env} {p : Addr} {o : HO}
theorem EnvR.mono (h : EnvR K fa α H σ ρ) (e : Ext K H H' α α') : EnvR K fa α' H' σ ρ :=
  ⟨h.1, fun i d q => let ⟨v, a, b⟩ := h.2 i d q; ⟨v, a, b.mono e⟩⟩
theorem EnvR.set {i : Nat} {v : V} {d : D} (h : EnvR K fa α H σ ρ) (r : Rp K fa α H v d) : EnvR K fa α H (σ.set i (some v)) (ρ.set i (some d)) := by
  refine ⟨by simpa using h.1, fun j e q => ?_⟩
  by_cases hj : i = j
  · subst hj
    have hl : i < ρ.length := by
      have := (List.getElem?_eq_some_iff.mp q).1
      simpa using this
    rw [List.getElem?_set_self hl] at q
    cases q
    exact ⟨v, by rw [List.getElem?_set_self (by rw [h.1]; exact hl)], r⟩
  · rw [List.getElem?_set_ne hj] at q
    obtain ⟨w, a, b⟩ := h.2 j e q
    exact ⟨w, by rw [List.getElem?_set_ne hj]; exact a, b⟩
theorem Paired.kg {κ : Type} (e : Gr K H H' α α') {ws : List (κ × V)} {kvs : List (κ × D)} (h : Paired (KR K fa α H) ws kvs) : Paired (KR K fa α' H') ws kvs :=
  Paired.mapP h fun _ _ z => ⟨z.1, z.2.grow e⟩
theorem Paired.kr {κ : Type} (e : Ext K H H' α α') {ws : List (κ × V)} {kvs : List (κ × D)} (h : Paired (KR K fa α H) ws kvs) : Paired (KR K fa α' H') ws kvs := Paired.kg e.toGr h
/-- a cell's own object is as it was -/
theorem CellR.grow {a : Addr} {c : Cell} (e : Gr K H H' α α') (hk : ∀ u, H a = some u → H' a = some u) (h : CellR K fa α H a c) : CellR K fa α' H' a c := by
  cases c with
  | lst xs => obtain ⟨vs, q, l, r⟩ := h; exact ⟨vs, hk _ q, l, r.grow e⟩
  | dK kvs => obtain ⟨ws, q, r⟩ := h; exact ⟨ws, hk _ q, Paired.kg e r⟩
  | dT kvs => obtain ⟨ws, q, r⟩ := h; exact ⟨ws, hk _ q, Paired.kg e r⟩
/-- an object that is no cell is new -/
theorem StR.new (s : StR K fa α H M) (hp : H p = none) : StR K fa α (upd H p o) M where
  len := s.len
  nod := s.nod
  cell := fun n c a e1 e2 => (s.cell n c a e1 e2).grow (Ext.new hp).toGr fun u h => by rw [upd_ne (ne_of_none h hp)]; exact h
  org := s.org.trans (Ext.new hp)
theorem CellR.there {a : Addr} {c : Cell} (h : CellR K fa α H a c) : ∃ u, H a = some u := by
  cases c with
  | lst xs => obtain ⟨vs, q, _⟩ := h; exact ⟨_, q⟩
  | dK kvs => obtain ⟨vs, q, _⟩ := h; exact ⟨_, q⟩
  | dT kvs => obtain ⟨vs, q, _⟩ := h; exact ⟨_, q⟩
theorem StR.there (s : StR K fa α H M) {a : Addr} (ha : a ∈ α) : ∃ u, H a = some u := by
  obtain ⟨n, hn, e⟩ := List.mem_iff_getElem.mp ha
  have hM : n < M.length := by rw [← s.len]; exact hn
  exact (s.cell n M[n] a (List.getElem?_eq_getElem hM) (by rw [List.getElem?_eq_getElem hn, e])).there
theorem StR.notin (s : StR K fa α H M) (hp : H p = none) : p ∉ α := fun z => by
  obtain ⟨u, h⟩ := s.there z
  rw [hp] at h; cases h
/-- a new cell -/
theorem StR.alloc (s : StR K fa α H M) (hp : H p = none) {c : Cell} (hc : CellR K fa (α ++ [p]) (upd H p o) p c) : StR K fa (α ++ [p]) (upd H p o) (M ++ [c]) where
  len := by rw [List.length_append, List.length_append, s.len]; rfl
  nod := by
    rw [List.nodup_append]
    refine ⟨s.nod, by simp, fun a ha b hb => ?_⟩
    have e : b = p := by simpa using hb
    subst e
    exact fun z => s.notin hp (by subst z; exact ha)
  cell := fun n c' a e1 e2 => by
    by_cases hn : n < M.length
    · rw [List.getElem?_append_left hn] at e1
      rw [List.getElem?_append_left (by rw [s.len]; exact hn)] at e2
      exact (s.cell n c' a e1 e2).grow (Ext.cell hp).toGr fun u h => by rw [upd_ne (ne_of_none h hp)]; exact h
    · have hn1 : n = M.length := by
        have := (List.getElem?_eq_some_iff.mp e1).1
        rw [List.length_append] at this
        have e : ([c] : List Cell).length = 1 := rfl
        omega
      subst hn1
      rw [List.getElem?_concat_length] at e1
      rw [← s.len, List.getElem?_concat_length] at e2
      cases e1; cases e2
      exact hc
  org := s.org.trans (Ext.cell hp)
/-- the n-th cell is written -/
theorem StR.write (s : StR K fa α H M) {n : Nat} {a : Addr} {u : HO} {c : Cell} (ea : α[n]? = some a) (hu : H a = some u) (nt : Mut (some u)) (hc : CellR K fa α (upd H a o) a c) : StR K fa α (upd H a o) (M.set n c) where
  len := by rw [List.length_set]; exact s.len
  nod := s.nod
  cell := fun m c' b e1 e2 => by
    by_cases hm : n = m
    · subst hm
      rw [ea] at e2; cases e2
      have hl : n < M.length := by rw [← s.len]; exact (List.getElem?_eq_some_iff.mp ea).1
      rw [List.getElem?_set_self hl] at e1
      cases e1
      exact hc
    · rw [List.getElem?_set_ne hm] at e1
      have hb : b ≠ a := by
        intro z
        subst z
        obtain ⟨h1, e1'⟩ := List.getElem?_eq_some_iff.mp ea
        obtain ⟨h2, e2'⟩ := List.getElem?_eq_some_iff.mp e2
        exact hm ((List.getElem_inj s.nod).mp (e1'.trans e2'.symm))
      exact (s.cell m c' b e1 e2).grow (Ext.write hu (List.mem_of_getElem? ea) nt).toGr fun w h => by rw [upd_ne hb]; exact h
  org := s.org.trans (Ext.write hu (List.mem_of_getElem? ea) nt)
/-- a list that stands apart becomes a cell -/
theorem StR.adopt (s : StR K fa α H M) {a : Addr} {vs : List V} {ds : List D} (ha : H a = some (.lst vs)) (na : a ∉ α) (l : vs.length ≤ sizeLine) (r : Rps K fa α H vs ds) (h0 : fa.H0 a = none) : StR K fa (α ++ [a]) H (M ++ [.lst ds]) where
  len := by rw [List.length_append, List.length_append, s.len]; rfl
  nod := by
    rw [List.nodup_append]
    refine ⟨s.nod, by simp, fun b hb c hc => ?_⟩
    have e : c = a := by simpa using hc
    subst e
    exact fun z => na (by subst z; exact hb)
  cell := fun n c' b e1 e2 => by
    have g : Gr K H H α (α ++ [a]) := ⟨fun _ _ h => h, fun _ _ _ h => h, ⟨[a], rfl⟩⟩
    by_cases hn : n < M.length
    · rw [List.getElem?_append_left hn] at e1
      rw [List.getElem?_append_left (by rw [s.len]; exact hn)] at e2
      exact (s.cell n c' b e1 e2).grow g fun u h => h
    · have hn1 : n = M.length := by
        have := (List.getElem?_eq_some_iff.mp e1).1
        rw [List.length_append] at this
        have e : ([Cell.lst ds] : List Cell).length = 1 := rfl
        omega
      subst hn1
      rw [List.getElem?_concat_length] at e1
      rw [← s.len, List.getElem?_concat_length] at e2
      cases e1; cases e2
      exact ⟨vs, ha, l, r.grow g⟩
  org := ⟨⟨s.org.tup, s.org.frz, by obtain ⟨β, hβ⟩ := s.org.pre; exact ⟨β ++ [a], by rw [hβ, List.append_assoc]⟩⟩, s.org.keep, s.org.there, fun b hb => by
    rcases List.mem_append.mp hb with z | z
    · exact s.org.fresh b z
    · have : b = a := by simpa using z
      subst this
      exact .inr h0⟩
theorem EnvR.wiped {vs : List Nat} (h : EnvR K fa α H σ ρ) : EnvR K fa α H (wipe σ vs) (vs.foldr (fun i (r : Env) => r.set i none) ρ) := by
  induction vs with
  | nil => exact h
  | cons v vs ih =>
    refine ⟨?_, fun i d q => ?_⟩
    · rw [wipe_length, List.foldr_cons, List.length_set, h.1]
      have : ∀ l : List Nat, (l.foldr (fun i (r : Env) => r.set i none) ρ).length = ρ.length := fun l => by
        induction l with
        | nil => rfl
        | cons x l ih => rw [List.foldr_cons, List.length_set, ih]
      rw [this]
    · rw [List.foldr_cons] at q
      by_cases hv : v = i
      · subst hv
        by_cases hl : v < (vs.foldr (fun i (r : Env) => r.set i none) ρ).length
        · rw [List.getElem?_set_self hl] at q; cases q
        · rw [List.getElem?_eq_none (by simpa using hl)] at q; cases q
      · rw [List.getElem?_set_ne hv] at q
        obtain ⟨w, a, b⟩ := ih.2 i d q
        refine ⟨w, ?_, b⟩
        show ((wipe σ vs).set v none)[i]? = _
        rw [List.getElem?_set_ne hv]
        exact a
/-- what is new is new from the entry on -/
theorem StR.h0 (s : StR K fa α H M) {a : Addr} (h : H a = none) : fa.H0 a = none := by
  cases q : fa.H0 a with
  | none => rfl
  | some u =>
    obtain ⟨u', h'⟩ := s.org.there _ _ q
    rw [h] at h'; cases h'
mutual
theorem Rp.org {fb : Org} (e : fb.fn = fa.fn) : ∀ {v : V} {d : D}, Rp K fa α H v d → Rp K fb α H v d
  | _, _, .non => .non
  | _, _, .bl b => .bl b
  | _, _, .int i => .int i
  | _, _, .str z => .str z
  | _, _, .tup s l r => .tup s l (Rps.org e r)
  | _, _, .kup s l r => .kup s l (Rps.org e r)
  | _, _, .rol s l r => .rol s l (Rps.org e r)
  | _, _, .ref h => .ref h
  | _, _, .fn i => by rw [← e]; exact .fn i
theorem Rps.org {fb : Org} (e : fb.fn = fa.fn) : ∀ {vs : List V} {ds : List D}, Rps K fa α H vs ds → Rps K fb α H vs ds
  | _, _, .nil => .nil
  | _, _, .cons h t => .cons (Rp.org e h) (Rps.org e t)
end
theorem CellR.org {fb : Org} (e : fb.fn = fa.fn) {a : Addr} {c : Cell} (h : CellR K fa α H a c) : CellR K fb α H a c := by
  cases c with
  | lst xs => obtain ⟨vs, q, l, r⟩ := h; exact ⟨vs, q, l, r.org e⟩
  | dK kvs => obtain ⟨ws, q, r⟩ := h; exact ⟨ws, q, Paired.mapP r fun _ _ z => ⟨z.1, z.2.org e⟩⟩
  | dT kvs => obtain ⟨ws, q, r⟩ := h; exact ⟨ws, q, Paired.mapP r fun _ _ z => ⟨z.1, z.2.org e⟩⟩
/-- the entry moved to here -/
theorem StR.start (s : StR K fa α H M) : StR K { fa with H0 := H, α0 := α } α H M := ⟨s.len, s.nod, fun n c a e1 e2 => CellR.org (fa := fa) (fb := { fa with H0 := H, α0 := α }) rfl (s.cell n c a e1 e2), Ext.refl⟩
theorem StR.back {H' : Hp} {α' : List Addr} {M' : Mem} (s : StR K fa α H M) (t : StR K { fa with H0 := H, α0 := α } α' H' M') : StR K fa α' H' M' := ⟨t.len, t.nod, fun n c a e1 e2 => CellR.org (fa := { fa with H0 := H, α0 := α }) (fb := fa) rfl (t.cell n c a e1 e2), s.org.trans t.org⟩
end
end DL
/-! The data layer, part 2: readings over data, and the rules of expressions. -/
namespace DL
open PySem PySem.Spec PyProof.Rows L2

/-- what a value's end wants, over the abstract heap -/
def Ans (K : PySem.W.Frag) (fa : Org) (α : List Addr) (H : Hp) (P : Po) (Q : VK) : Prop :=
  ∀ (v : V) (d : D) (H' : Hp) (α' : List Addr) (M' : Mem), Ext K H H' α α' → StR K fa α' H' M' → Rp K fa α' H' v d → P d M' → Q v H'
def LE (K : PySem.W.Frag) (fa : Org) (C : Ctx) (t : DE) : TE := fun σ H Q => ∃ (ρ : Env) (M : Mem) (α : List Addr) (P : Po), EnvR K fa α H σ ρ ∧ StR K fa α H M ∧ t C ρ M P ∧ Ans K fa α H P Q
def LT (K : PySem.W.Frag) (fa : Org) (C : Ctx) (t : DT) : TT := fun σ H Q => ∃ (ρ : Env) (M : Mem) (α : List Addr) (P : Bool → Mem → Prop), EnvR K fa α H σ ρ ∧ StR K fa α H M ∧ t C ρ M P ∧
  ∀ (b : Bool) (H' : Hp) (α' : List Addr) (M' : Mem), Ext K H H' α α' → StR K fa α' H' M' → P b M' → Q b H'
def LA (K : PySem.W.Frag) (fa : Org) (C : Ctx) (t : DA) : TA := fun σ H Q => ∃ (ρ : Env) (M : Mem) (α : List Addr) (P : List D → Mem → Prop), EnvR K fa α H σ ρ ∧ StR K fa α H M ∧ t C ρ M P ∧
  ∀ (vs : List V) (ds : List D) (H' : Hp) (α' : List Addr) (M' : Mem), Ext K H H' α α' → StR K fa α' H' M' → Rps K fa α' H' vs ds → P ds M' → Q vs H'
/-- a two-place operation by values -/
abbrev DOp := D → D → Mem → Po → Prop
def LO (K : PySem.W.Frag) (fa : Org) (op : DOp) : R2 := fun x y H Q => ∃ (M : Mem) (α : List Addr) (d e : D) (P : Po), StR K fa α H M ∧ Rp K fa α H x d ∧ Rp K fa α H y e ∧ op d e M P ∧ Ans K fa α H P Q
/-- a one-place one -/
abbrev DUn := D → Mem → Po → Prop
def LU (K : PySem.W.Frag) (fa : Org) (op : DUn) : V → Hp → VK → Prop := fun x H Q => ∃ (M : Mem) (α : List Addr) (d : D) (P : Po), StR K fa α H M ∧ Rp K fa α H x d ∧ op d M P ∧ Ans K fa α H P Q
/-- values to a value -/
abbrev DF := List D → Mem → Po → Prop
def LF (K : PySem.W.Frag) (fa : Org) (op : DF) : List V → Hp → VK → Prop := fun xs H Q => ∃ (M : Mem) (α : List Addr) (ds : List D) (P : Po), StR K fa α H M ∧ Rps K fa α H xs ds ∧ op ds M P ∧ Ans K fa α H P Q

section
variable {K : PySem.W.Frag} {fa : Org} {α α' : List Addr} {H H' : Hp} {M : Mem} {P : Po} {Q : VK} {v : V} {d : D}
theorem Ans.ext (a : Ans K fa α H P Q) (e : Ext K H H' α α') : Ans K fa α' H' P Q := fun v d H2 α2 M2 e2 s r p => a v d H2 α2 M2 (e.trans e2) s r p
theorem Ans.here (a : Ans K fa α H P Q) (s : StR K fa α H M) (r : Rp K fa α H v d) (p : P d M) : Q v H := a v d H α M Ext.refl s r p
/-- a new tuple as the answer -/
theorem Ans.tup {vs : List V} {ds : List D} {p : Addr} (a : Ans K fa α H P Q) (s : StR K fa α H M) (r : Rps K fa α H vs ds) (l : vs.length ≤ sizeLine) (hp : H p = none) (h : P (.tup ds) M) : Q (.ref p) (upd H p (.tup vs)) :=
  a _ _ _ _ _ (Ext.new hp) (s.new hp) (.tup upd_same l (r.mono (Ext.new hp))) h
/-- a new list cell as the answer -/
theorem Ans.lst {vs : List V} {ds : List D} {p : Addr} (a : Ans K fa α H P Q) (s : StR K fa α H M) (r : Rps K fa α H vs ds) (l : vs.length ≤ sizeLine) (hp : H p = none) (h : P (.ref M.length) (M ++ [.lst ds])) : Q (.ref p) (upd H p (.lst vs)) :=
  a _ _ _ _ _ (Ext.cell hp) (s.alloc (c := .lst ds) hp ⟨vs, upd_same, l, r.mono (Ext.cell hp)⟩) (.ref (by rw [← s.len, List.getElem?_concat_length])) h
end

end DL
namespace L2
open PySem PySem.Spec PyProof.Rows
theorem PE.imp {X : Cx} {e : Expr} {t t' : TE} (h : PE X e t) (i : ∀ σ H Q, t' σ H Q → t σ H Q) : PE X e t' := ⟨fun pins s σ H Q I q => h.run pins s σ H Q I (i σ H Q q)⟩
theorem PT.imp {X : Cx} {e : Expr} {t t' : TT} (h : PT X e t) (i : ∀ σ H Q, t' σ H Q → t σ H Q) : PT X e t' := ⟨fun pins s σ H Q I q => h.run pins s σ H Q I (i σ H Q q)⟩
theorem PW.imp {X : Cx} {e : Expr} {t t' : TT} (h : PW X e t) (i : ∀ σ H Q, t' σ H Q → t σ H Q) : PW X e t' := ⟨fun wh pins s σ H Q I q => h.run wh pins s σ H Q I (i σ H Q q)⟩
theorem PA.imp {X : Cx} {e : List Expr} {t t' : TA} (h : PA X e t) (i : ∀ σ H Q, t' σ H Q → t σ H Q) : PA X e t' := ⟨fun pos pins s σ H Q I q => h.run pos pins s σ H Q I (i σ H Q q)⟩
theorem OpR.imp {X : Cx} {f : Value → Value → Sem Value} {r r' : R2} (h : OpR X f r) (i : ∀ x y H Q, r' x y H Q → r x y H Q) : OpR X f r' := fun pins s σ H x y v u Q I rx ry q => h pins s σ H x y v u Q I rx ry (i x y H Q q)
theorem UnR.imp {X : Cx} {f : Value → Sem Value} {r r' : V → Hp → VK → Prop} (h : UnR X f r) (i : ∀ x H Q, r' x H Q → r x H Q) : UnR X f r' := fun pins s σ H x v Q I rx q => h pins s σ H x v Q I rx (i x H Q q)
theorem CallR.imp {X : Cx} {f : Value} {r r' : List V → Hp → VK → Prop} (h : CallR X f r) (i : ∀ x H Q, r' x H Q → r x H Q) : CallR X f r' := fun pins s σ H x v Q I rx q => h pins s σ H x v Q I rx (i x H Q q)
theorem IxR.imp {X : Cx} {r r' : R2} (h : IxR X r) (i : ∀ x y H Q, r' x y H Q → r x y H Q) : IxR X r' := fun va sl pins s σ H x y v u Q I rx ry q => h va sl pins s σ H x y v u Q I rx ry (i x y H Q q)
theorem MtR.imp {X : Cx} {id : String} {r r' : V → List V → Hp → VK → Prop} (h : MtR X id r) (i : ∀ x xs H Q, r' x xs H Q → r x xs H Q) : MtR X id r' := fun pins s σ H x xs v us Q I rx rs q => h pins s σ H x xs v us Q I rx rs (i x xs H Q q)

end L2
namespace DL
open PySem PySem.Spec PyProof.Rows L2
/-! ### meanings over data -/
def got (o : Option (Option D)) (k : D → Prop) : Prop := match o with
  | some (some d) => k d
  | _ => False
def eVar (i : Nat) : DE := fun _ ρ M P => got ρ[i]? fun d => P d M
def eK (d : D) : DE := fun _ _ M P => P d M
def eBin (op : DOp) (a b : DE) : DE := fun C ρ M P => a C ρ M fun x M1 => b C ρ M1 fun y M2 => op x y M2 P
def eUn (op : DUn) (a : DE) : DE := fun C ρ M P => a C ρ M fun x M1 => op x M1 P
/-- a comparison's answer as a test -/
def bl? (P : Bool → Mem → Prop) : Po := fun d M => match d with
  | .bl b => P b M
  | _ => False
def tOf (a : DE) : DT := fun C ρ M P => a C ρ M (bl? P)
/-- truth -/
def tru (d : D) (M : Mem) (k : Bool → Prop) : Prop := match d with
  | .non => k false
  | .bl b => k b
  | .int i => k (i != 0)
  | .str z => z.length ≤ sizeLine ∧ k ((z.length : Int) != 0)
  | .tup xs => k (!xs.isEmpty)
  | .kup xs => k (!xs.isEmpty)
  | .rol xs => k (!xs.isEmpty)
  | .ref n => (match M[n]? with
    | some (.lst xs) => k (!xs.isEmpty)
    | some (.dK kvs) => k (!kvs.isEmpty)
    | _ => False)
  | .fn _ => False
def tTru (a : DE) : DT := fun C ρ M P => a C ρ M fun d M1 => tru d M1 fun b => P b M1
def tAnd (a b : DT) : DT := fun C ρ M P => a C ρ M fun c M1 => if c = true then b C ρ M1 P else P false M1
def tOr (a b : DT) : DT := fun C ρ M P => a C ρ M fun c M1 => if c = true then P true M1 else b C ρ M1 P
def tNot (a : DT) : DT := fun C ρ M P => a C ρ M fun c M1 => P (!c) M1
def eAnd (a b : DE) : DE := fun C ρ M P => a C ρ M fun d M1 => tru d M1 fun c => if c = true then b C ρ M1 P else P d M1
def eOr (a b : DE) : DE := fun C ρ M P => a C ρ M fun d M1 => tru d M1 fun c => if c = true then P d M1 else b C ρ M1 P
def eNot (a : DE) : DE := fun C ρ M P => a C ρ M fun d M1 => tru d M1 fun c => P (.bl (!c)) M1
def eIf (c : DT) (a b : DE) : DE := fun C ρ M P => c C ρ M fun k M1 => if k = true then a C ρ M1 P else b C ρ M1 P
def aNil : DA := fun _ _ M P => P [] M
def aCons (a : DE) (r : DA) : DA := fun C ρ M P => a C ρ M fun d M1 => r C ρ M1 fun ds M2 => P (d :: ds) M2
def eTup (a : DA) : DE := fun C ρ M P => a C ρ M fun ds M1 => ds.length ≤ sizeLine ∧ P (.tup ds) M1
def eLst (a : DA) : DE := fun C ρ M P => a C ρ M fun ds M1 => ds.length ≤ sizeLine ∧ P (.ref M1.length) (M1 ++ [.lst ds])
def eF (f : DF) (a : DA) : DE := fun C ρ M P => a C ρ M fun ds M1 => f ds M1 P
def eCall (i : Nat) (a : DA) : DE := fun C ρ M P => a C ρ M fun ds M1 => C.call i (C.ex ρ) ds M1 P
def eChain (op op' : DOp) (a b c : DE) : DE := fun C ρ M P => a C ρ M fun x M1 => b C ρ M1 fun y M2 => op x y M2 fun z M3 => match z with
  | .bl k => if k = true then c C ρ M3 fun w M4 => op' y w M4 P else P (.bl false) M3
  | _ => False

section
variable {X : Cx} {fa : Org} {C : Ctx} {a b c e : Expr} {es rest : List Expr} {pos : Pos} {ta tb tc : DE} {ua ub : DT} {da : DA}

theorem d_var {i : Nat} {x : Str} (hN : X.N[i]? = some x) (hv : Vis X.env.scope x) (hd : (x == ("__debug__" : Str)) = false) (hcd : (x == ("__classdict__" : Str)) = false) : PE X (.Name x pos) (LE X.K fa C (eVar i)) :=
  (pe_var hN hv hd hcd).imp fun σ H Q ⟨ρ, M, α, P, er, st, h, an⟩ => by
    have h : got ρ[i]? fun d => P d M := h
    cases q : ρ[i]? with
    | none => rw [q] at h; exact h.elim
    | some o =>
      cases o with
      | none => rw [q] at h; exact h.elim
      | some d =>
        rw [q] at h
        obtain ⟨v, e1, r⟩ := er.2 i d q
        exact ⟨v, e1, an.here st r h⟩
theorem d_int {i j} : PE X (.Constant (.int i) j pos) (LE X.K fa C (eK (.int i))) := pe_int.imp fun σ H Q ⟨ρ, M, α, P, er, st, h, an⟩ => an.here st (.int i) h
theorem d_bl {b j} : PE X (.Constant (.bool b) j pos) (LE X.K fa C (eK (.bl b))) := pe_bl.imp fun σ H Q ⟨ρ, M, α, P, er, st, h, an⟩ => an.here st (.bl b) h
theorem d_non {j} : PE X (.Constant .none j pos) (LE X.K fa C (eK .non)) := pe_non.imp fun σ H Q ⟨ρ, M, α, P, er, st, h, an⟩ => an.here st .non h
theorem d_str {x j} : PE X (.Constant (.str x) j pos) (LE X.K fa C (eK (.str x))) := pe_str.imp fun σ H Q ⟨ρ, M, α, P, er, st, h, an⟩ => an.here st (.str x) h
/-- a module's constant -/
theorem d_glob {x : Str} {v : V} {u : Value} {d : D} (hg : Gl X x) (hm : X.mg x = some u) (r : RelV v u) (rp : ∀ α H, Rp X.K fa α H v d) (hd : (x == ("__debug__" : Str)) = false) : PE X (.Name x pos) (LE X.K fa C (eK d)) :=
  (pe_glob hg hm r hd).imp fun σ H Q ⟨ρ, M, α, P, er, st, h, an⟩ => an.here st (rp α H) h

theorem two {σ : L2.St} {H : Hp} {Q : VK} {op : DOp} (h : LE X.K fa C (eBin op ta tb) σ H Q) : LE X.K fa C ta σ H fun x H1 => LE X.K fa C tb σ H1 fun y H2 => LO X.K fa op x y H2 Q := by
  obtain ⟨ρ, M, α, P, er, st, h, an⟩ := h
  refine ⟨ρ, M, α, _, er, st, h, fun x d H1 α1 M1 e1 s1 r1 h1 => ?_⟩
  refine ⟨ρ, M1, α1, _, er.mono e1, s1, h1, fun y e H2 α2 M2 e2 s2 r2 h2 => ?_⟩
  exact ⟨M2, α2, d, e, P, s2, r1.mono e2, r2, h2, (an.ext e1).ext e2⟩
theorem d_bin {op : Operator} {o : DOp} (ho : OpR X (binaryOp op) (LO X.K fa o)) (ha : PE X a (LE X.K fa C ta)) (hb : PE X b (LE X.K fa C tb)) : PE X (.BinOp a op b pos) (LE X.K fa C (eBin o ta tb)) :=
  (pe_op ho ha hb).imp fun _ _ _ h => two h
theorem d_un {op : UnaryOp} {o : DUn} (ho : UnR X (unaryOp op) (LU X.K fa o)) (ha : PE X a (LE X.K fa C ta)) : PE X (.UnaryOp op a pos) (LE X.K fa C (eUn o ta)) :=
  (pe_un ho ha).imp fun σ H Q ⟨ρ, M, α, P, er, st, h, an⟩ => ⟨ρ, M, α, _, er, st, h, fun x d H1 α1 M1 e1 s1 r1 h1 => ⟨M1, α1, d, P, s1, r1, h1, an.ext e1⟩⟩
theorem d_cmp {op : CmpOp} {o : DOp} (ho : OpR X (compareOp op) (LO X.K fa o)) (ha : PE X a (LE X.K fa C ta)) (hb : PE X b (LE X.K fa C tb)) (hm : behindInMarks op b = false) : PE X (.Compare a [op] [b] pos) (LE X.K fa C (eBin o ta tb)) :=
  (pe_cmpR ho ha hb hm).imp fun _ _ _ h => two h
/-- an expression that gives a bool, as a test -/
theorem d_tOf {t : DE} (h : PT X e (fun σ H Q => LE X.K fa C t σ H fun x H1 => ∃ k, x = .bl k ∧ Q k H1)) : PT X e (LT X.K fa C (tOf t)) :=
  h.imp fun σ H Q ⟨ρ, M, α, P, er, st, h, an⟩ => ⟨ρ, M, α, _, er, st, h, fun v d H' α' M' e s r p => by
    cases d with
    | bl b => cases r; exact ⟨b, rfl, an b H' α' M' e s p⟩
    | _ => exact p.elim⟩
theorem t_cmp {op : CmpOp} {o : DOp} (ho : OpR X (compareOp op) (LO X.K fa o)) (ha : PE X a (LE X.K fa C ta)) (hb : PE X b (LE X.K fa C tb)) (hm : behindInMarks op b = false) : PT X (.Compare a [op] [b] pos) (LT X.K fa C (tOf (eBin o ta tb))) :=
  d_tOf ((pt_cmpR ho ha hb hm).imp fun _ _ _ h => two h)
theorem chain {σ : L2.St} {H : Hp} {Q : VK} {o o' : DOp} (h : LE X.K fa C (eChain o o' ta tb tc) σ H Q) : tChain (LO X.K fa o) (LO X.K fa o') (LE X.K fa C ta) (LE X.K fa C tb) (LE X.K fa C tc) σ H Q := by
  obtain ⟨ρ, M, α, P, er, st, h, an⟩ := h
  refine ⟨ρ, M, α, _, er, st, h, fun x d H1 α1 M1 e1 s1 r1 h1 => ?_⟩
  refine ⟨ρ, M1, α1, _, er.mono e1, s1, h1, fun y e H2 α2 M2 e2 s2 r2 h2 => ?_⟩
  refine ⟨M2, α2, d, e, _, s2, r1.mono e2, r2, h2, fun z f H3 α3 M3 e3 s3 r3 h3 => ?_⟩
  cases f with
  | bl k =>
    cases r3
    refine ⟨k, rfl, ?_⟩
    cases k with
    | true =>
      refine ⟨ρ, M3, α3, _, er.mono ((e1.trans e2).trans e3), s3, h3, fun w g H4 α4 M4 e4 s4 r4 h4 => ?_⟩
      exact ⟨M4, α4, e, g, P, s4, r2.mono (e3.trans e4), r4, h4, an.ext (((e1.trans e2).trans e3).trans e4)⟩
    | false => exact an _ _ _ _ _ ((e1.trans e2).trans e3) s3 (.bl false) h3
  | _ => exact h3.elim
theorem d_chain {op op' : CmpOp} {o o' : DOp} (ho : OpR X (compareOp op) (LO X.K fa o)) (ho' : OpR X (compareOp op') (LO X.K fa o')) (ha : PE X a (LE X.K fa C ta)) (hb : PE X b (LE X.K fa C tb)) (hc : PE X c (LE X.K fa C tc)) (hm : lastMarks [op, op'] [b, c] = false) :
    PE X (.Compare a [op, op'] [b, c] pos) (LE X.K fa C (eChain o o' ta tb tc)) := (pe_chain ho ho' ha hb hc hm).imp fun _ _ _ h => chain h
theorem t_chain {op op' : CmpOp} {o o' : DOp} (ho : OpR X (compareOp op) (LO X.K fa o)) (ho' : OpR X (compareOp op') (LO X.K fa o')) (ha : PE X a (LE X.K fa C ta)) (hb : PE X b (LE X.K fa C tb)) (hc : PE X c (LE X.K fa C tc)) (hm : lastMarks [op, op'] [b, c] = false) :
    PT X (.Compare a [op, op'] [b, c] pos) (LT X.K fa C (tOf (eChain o o' ta tb tc))) := d_tOf ((pt_chain ho ho' ha hb hc hm).imp fun _ _ _ h => chain h)

/-! ### truth -/
theorem tru_v {K : PySem.W.Frag} {α : List Addr} {H : Hp} {M : Mem} {v : V} {d : D} {k : Bool → Prop} (st : StR K fa α H M) (r : Rp K fa α H v d) (h : tru d M k) : ∃ b, TruV K v H b ∧ k b := by
  cases r with
  | non => exact ⟨false, rfl, h⟩
  | bl b => exact ⟨b, rfl, h⟩
  | int i => exact ⟨_, rfl, h⟩
  | str z => exact ⟨_, ⟨h.1, rfl⟩, h.2⟩
  | @tup a vs ds s l r => exact ⟨_, .inr (.inl ⟨vs, .inl (.inl s), by cases r <;> rfl⟩), h⟩
  | @kup a vs ds s l r => exact ⟨_, .inr (.inl ⟨vs, s H, by cases r <;> rfl⟩), h⟩
  | @rol a vs ds s l r => exact ⟨_, .inl ⟨vs, s.elim (fun z => .inl (.inr z)) fun z => z H, by cases r <;> rfl⟩, h⟩
  | @ref n a ea =>
    have h : (match M[n]? with
      | some (.lst xs) => k (!xs.isEmpty)
      | some (.dK kvs) => k (!kvs.isEmpty)
      | _ => False) := h
    cases q : M[n]? with
    | none => rw [q] at h; exact h.elim
    | some c =>
      rw [q] at h
      cases c with
      | lst xs =>
        obtain ⟨vs, hv, _, r⟩ := st.cell n _ a q ea
        exact ⟨_, .inl ⟨vs, .inl (.inl hv), by cases r <;> rfl⟩, h⟩
      | dK kvs =>
        obtain ⟨ws, hv, r⟩ := st.cell n _ a q ea
        exact ⟨_, .inr (.inr ⟨ws, hv, by cases r <;> rfl⟩), h⟩
      | dT kvs => exact h.elim
  | fn i => exact h.elim
theorem t_tru (ha : PE X a (LE X.K fa C ta)) (he : ∀ whole, isTrue a X.env whole = (do let v ← whole; standAt a.pos; holding [v] (truthy v))) : PT X a (LT X.K fa C (tTru ta)) :=
  (pt_truth ha he).imp fun σ H Q ⟨ρ, M, α, P, er, st, h, an⟩ => ⟨ρ, M, α, _, er, st, h, fun v d H' α' M' e s r p => let ⟨b, h1, h2⟩ := tru_v s r p; ⟨b, h1, an b H' α' M' e s h2⟩⟩
theorem t_and1 (ha : PT X a (LT X.K fa C ua)) : PW X (.BoolOp .And [a] pos) (LT X.K fa C ua) := pw_and1 ha
theorem t_or1 (ha : PT X a (LT X.K fa C ua)) : PW X (.BoolOp .Or [a] pos) (LT X.K fa C ua) := pw_or1 ha
theorem t_and (ha : PT X a (LT X.K fa C ua)) (hb : PW X (.BoolOp .And (b :: rest) pos) (LT X.K fa C ub)) : PW X (.BoolOp .And (a :: b :: rest) pos) (LT X.K fa C (tAnd ua ub)) :=
  (pw_and ha hb).imp fun σ H Q ⟨ρ, M, α, P, er, st, h, an⟩ => ⟨ρ, M, α, _, er, st, h, fun k H' α' M' e s p => by
    cases k with
    | true => exact ⟨ρ, M', α', P, er.mono e, s, p, fun k2 H2 α2 M2 e2 s2 p2 => an k2 H2 α2 M2 (e.trans e2) s2 p2⟩
    | false => exact an false H' α' M' e s p⟩
theorem t_or (ha : PT X a (LT X.K fa C ua)) (hb : PW X (.BoolOp .Or (b :: rest) pos) (LT X.K fa C ub)) : PW X (.BoolOp .Or (a :: b :: rest) pos) (LT X.K fa C (tOr ua ub)) :=
  (pw_or ha hb).imp fun σ H Q ⟨ρ, M, α, P, er, st, h, an⟩ => ⟨ρ, M, α, _, er, st, h, fun k H' α' M' e s p => by
    cases k with
    | false => exact ⟨ρ, M', α', P, er.mono e, s, p, fun k2 H2 α2 M2 e2 s2 p2 => an k2 H2 α2 M2 (e.trans e2) s2 p2⟩
    | true => exact an true H' α' M' e s p⟩
theorem t_not (ha : PT X a (LT X.K fa C ua)) : PT X (.UnaryOp .Not a pos) (LT X.K fa C (tNot ua)) :=
  (pt_not ha).imp fun σ H Q ⟨ρ, M, α, P, er, st, h, an⟩ => ⟨ρ, M, α, _, er, st, h, fun k H' α' M' e s p => an (!k) H' α' M' e s p⟩
theorem d_and (ha : PE X a (LE X.K fa C ta)) (hb : PE X (.BoolOp .And (b :: rest) pos) (LE X.K fa C tb)) : PE X (.BoolOp .And (a :: b :: rest) pos) (LE X.K fa C (eAnd ta tb)) :=
  (pe_andT ha hb).imp fun σ H Q ⟨ρ, M, α, P, er, st, h, an⟩ => ⟨ρ, M, α, _, er, st, h, fun v d H' α' M' e s r p => by
    obtain ⟨k, h1, h2⟩ := tru_v s r p
    refine ⟨k, h1, ?_⟩
    cases k with
    | true => exact ⟨ρ, M', α', P, er.mono e, s, h2, an.ext e⟩
    | false => exact an _ _ _ _ _ e s r h2⟩
theorem d_or (ha : PE X a (LE X.K fa C ta)) (hb : PE X (.BoolOp .Or (b :: rest) pos) (LE X.K fa C tb)) : PE X (.BoolOp .Or (a :: b :: rest) pos) (LE X.K fa C (eOr ta tb)) :=
  (pe_orT ha hb).imp fun σ H Q ⟨ρ, M, α, P, er, st, h, an⟩ => ⟨ρ, M, α, _, er, st, h, fun v d H' α' M' e s r p => by
    obtain ⟨k, h1, h2⟩ := tru_v s r p
    refine ⟨k, h1, ?_⟩
    cases k with
    | false => exact ⟨ρ, M', α', P, er.mono e, s, h2, an.ext e⟩
    | true => exact an _ _ _ _ _ e s r h2⟩
theorem d_one {op} (ha : PE X a (LE X.K fa C ta)) : PE X (.BoolOp op [a] pos) (LE X.K fa C ta) := pe_one ha
theorem d_not (ha : PE X a (LE X.K fa C ta)) : PE X (.UnaryOp .Not a pos) (LE X.K fa C (eNot ta)) :=
  (pe_notT ha).imp fun σ H Q ⟨ρ, M, α, P, er, st, h, an⟩ => ⟨ρ, M, α, _, er, st, h, fun v d H' α' M' e s r p => by
    obtain ⟨k, h1, h2⟩ := tru_v s r p
    exact ⟨k, h1, an _ _ _ _ _ e s (.bl _) h2⟩⟩
theorem d_if (hc : PT X c (LT X.K fa C ua)) (ha : PE X a (LE X.K fa C ta)) (hb : PE X b (LE X.K fa C tb)) : PE X (.IfExp c a b pos) (LE X.K fa C (eIf ua ta tb)) :=
  (pe_ifExp hc ha hb).imp fun σ H Q ⟨ρ, M, α, P, er, st, h, an⟩ => ⟨ρ, M, α, _, er, st, h, fun k H' α' M' e s p => by
    cases k with
    | true => exact ⟨ρ, M', α', P, er.mono e, s, p, an.ext e⟩
    | false => exact ⟨ρ, M', α', P, er.mono e, s, p, an.ext e⟩⟩

/-! ### arguments, displays, calls -/
theorem a_nil : PA X [] (LA X.K fa C aNil) := pa_nil.imp fun σ H Q ⟨ρ, M, α, P, er, st, h, an⟩ => an [] [] H α M Ext.refl st .nil h
theorem a_cons (ha : PE X a (LE X.K fa C ta)) (hr : PA X es (LA X.K fa C da)) (hs : starEach (a :: es) X.env = (false, eval a X.env) :: starEach es X.env) : PA X (a :: es) (LA X.K fa C (aCons ta da)) :=
  (pa_cons ha hr hs).imp fun σ H Q ⟨ρ, M, α, P, er, st, h, an⟩ => ⟨ρ, M, α, _, er, st, h, fun v d H' α' M' e s r p =>
    ⟨ρ, M', α', _, er.mono e, s, p, fun vs ds H2 α2 M2 e2 s2 r2 p2 => an _ _ _ _ _ (e.trans e2) s2 (.cons (r.mono e2) r2) p2⟩⟩
theorem d_tup {x1} (h : PA X es (LA X.K fa C da)) : PE X (.Tuple es x1 pos) (LE X.K fa C (eTup da)) :=
  (pe_tup h).imp fun σ H Q ⟨ρ, M, α, P, er, st, h, an⟩ => ⟨ρ, M, α, _, er, st, h, fun vs ds H' α' M' e s r p =>
    ⟨by rw [r.length]; exact p.1, fun q hq => (an.ext e).tup s r (by rw [r.length]; exact p.1) hq p.2⟩⟩
theorem d_lst (h : PA X es (LA X.K fa C da)) : PE X (.List es pos) (LE X.K fa C (eLst da)) :=
  (pe_lst h).imp fun σ H Q ⟨ρ, M, α, P, er, st, h, an⟩ => ⟨ρ, M, α, _, er, st, h, fun vs ds H' α' M' e s r p =>
    ⟨by rw [r.length]; exact p.1, fun q hq => (an.ext e).lst s r (by rw [r.length]; exact p.1) hq p.2⟩⟩
theorem ff {σ : L2.St} {H : Hp} {Q : VK} {f : DF} (h : LE X.K fa C (eF f da) σ H Q) : LA X.K fa C da σ H fun vs H1 => LF X.K fa f vs H1 Q := by
  obtain ⟨ρ, M, α, P, er, st, h, an⟩ := h
  exact ⟨ρ, M, α, _, er, st, h, fun vs ds H' α' M' e s r p => ⟨M', α', ds, P, s, r, p, an.ext e⟩⟩
theorem d_callB {x : Str} {p : Pos} {id : String} {f : DF} (hc : CallR X (.builtin id) (LF X.K fa f)) (hg : Gl X x) (hm : X.mg x = none) (hv : bootBuiltins x = some (.builtin id)) (ha : PA X (e :: es) (LA X.K fa C da)) (hn : x ≠ "__name__") (hdb : (x == ("__debug__" : Str)) = false)
    (he : starEach (e :: es) X.env = (false, eval e X.env) :: starEach es X.env) (hpl : (backTo pos (starEach es X.env)).any (·.1) = false) : PE X (.Call (.Name x p) (e :: es) [] pos) (LE X.K fa C (eF f da)) :=
  (pe_callB hc hg hm hv ha hn hdb he hpl).imp fun _ _ _ h => ff h
theorem d_callTy {x : Str} {p : Pos} {T : String} {f : DF} (hc : CallR X (.type T) (LF X.K fa f)) (hg : Gl X x) (hm : X.mg x = none) (hv : bootBuiltins x = some (.type T)) (ha : PA X (e :: es) (LA X.K fa C da)) (hn : x ≠ "__name__") (hdb : (x == ("__debug__" : Str)) = false)
    (he : starEach (e :: es) X.env = (false, eval e X.env) :: starEach es X.env) (hpl : (backTo pos (starEach es X.env)).any (·.1) = false) : PE X (.Call (.Name x p) (e :: es) [] pos) (LE X.K fa C (eF f da)) :=
  (pe_callTy hc hg hm hv ha hn hdb he hpl).imp fun _ _ _ h => ff h
theorem d_callBfun {x : Str} {p : Pos} {id : String} {f : DF} (hc : CallR X (.builtin id) (LF X.K fa f)) (hg : Gl X x) (hm : X.mg x = some (.builtin id)) (ha : PA X (e :: es) (LA X.K fa C da)) (hdb : (x == ("__debug__" : Str)) = false)
    (he : starEach (e :: es) X.env = (false, eval e X.env) :: starEach es X.env) (hpl : (backTo pos (starEach es X.env)).any (·.1) = false) : PE X (.Call (.Name x p) (e :: es) [] pos) (LE X.K fa C (eF f da)) :=
  (pe_callBfun hc hg hm ha hdb he hpl).imp fun _ _ _ h => ff h
end
end DL
/-! The data layer, part 3: operators, comparisons, subscripts by values. -/
namespace DL
open PySem PySem.Spec PyProof.Rows L2

/-! ### data for the library's == -/
mutual
def toPy : D → PyData
  | .non => .none
  | .bl b => .bool b
  | .int i => .int i
  | .str z => .str z
  | .tup xs => .tuple (toPys xs)
  | .kup xs => .tuple (toPys xs)
  | .rol xs => .list (toPys xs)
  | .ref _ => .none
  | .fn _ => .none
def toPys : List D → List PyData
  | [] => []
  | x :: xs => toPy x :: toPys xs
end
mutual
/-- no cell, no def within -/
def pure? : D → Bool
  | .tup xs => pures? xs
  | .kup xs => pures? xs
  | .rol xs => pures? xs
  | .ref _ => false
  | .fn _ => false
  | _ => true
def pures? : List D → Bool
  | [] => true
  | x :: xs => pure? x && pures? xs
end
/-- as data, a list's cell opened -/
def pyM (M : Mem) (d : D) : Option PyData := match d with
  | .ref n => (match M[n]? with
    | some (.lst xs) => if pures? xs = true then some (.list (toPys xs)) else none
    | _ => none)
  | d => if pure? d = true then some (toPy d) else none
section
variable {K : PySem.W.Frag} {fa : Org} {α : List Addr} {H : Hp} {M : Mem}
mutual
theorem Rp.dp : ∀ {v : V} {d : D}, Rp K fa α H v d → pure? d = true → Dp K H v (toPy d)
  | _, _, .non, _ => .non
  | _, _, .bl b, _ => .bl b
  | _, _, .int i, _ => .int i
  | _, _, .str z, _ => .str z
  | _, _, .tup s l r, h => .tup (.inl (.inl s)) (Rps.dp r h)
  | _, _, .kup s l r, h => .tup (s H) (Rps.dp r h)
  | _, _, .rol s l r, h => .lst (s.elim (fun z => .inl (.inr z)) fun z => z H) (Rps.dp r h)
  | _, _, .ref _, h => nomatch h
  | _, _, .fn _, h => nomatch h
theorem Rps.dp : ∀ {vs : List V} {ds : List D}, Rps K fa α H vs ds → pures? ds = true → DpAll K H vs (toPys ds)
  | _, _, .nil, _ => .nil
  | _, _, .cons h t, q => .cons (Rp.dp h (Bool.and_eq_true_iff.mp q).1) (Rps.dp t (Bool.and_eq_true_iff.mp q).2)
end
theorem pyM_dp {v : V} {d : D} {p : PyData} (st : StR K fa α H M) (r : Rp K fa α H v d) (h : pyM M d = some p) : Dp K H v p := by
  cases r with
  | @ref n a ea =>
    have h : (match M[n]? with
      | some (.lst xs) => if pures? xs = true then some (PyData.list (toPys xs)) else none
      | _ => none) = some p := h
    cases q : M[n]? with
    | none => rw [q] at h; cases h
    | some c =>
      rw [q] at h
      cases c with
      | lst xs =>
        obtain ⟨vs, hv, _, r⟩ := st.cell n _ a q ea
        have h : (if pures? xs = true then some (PyData.list (toPys xs)) else none) = some p := h
        by_cases g : pures? xs = true
        · rw [if_pos g] at h
          cases h
          exact .lst (.inl (.inl hv)) (r.dp g)
        · rw [if_neg g] at h; cases h
      | dK _ => cases h
      | dT _ => cases h
  | fn i => exact nomatch h
  | non => cases h; exact .non
  | bl b => cases h; exact .bl b
  | int i => cases h; exact .int i
  | str z => cases h; exact .str z
  | @tup a vs ds s l r =>
    have h : (if pures? ds = true then some (toPy (.tup ds)) else none) = some p := h
    by_cases g : pures? ds = true
    · rw [if_pos g] at h; cases h; exact Rp.dp (.tup s l r) g
    · rw [if_neg g] at h; cases h
  | @kup a vs ds s l r =>
    have h : (if pures? ds = true then some (toPy (.kup ds)) else none) = some p := h
    by_cases g : pures? ds = true
    · rw [if_pos g] at h; cases h; exact Rp.dp (.kup s l r) g
    · rw [if_neg g] at h; cases h
  | @rol a vs ds s l r =>
    have h : (if pures? ds = true then some (toPy (.rol ds)) else none) = some p := h
    by_cases g : pures? ds = true
    · rw [if_pos g] at h; cases h; exact Rp.dp (.rol s l r) g
    · rw [if_neg g] at h; cases h
end

/-! ### the operations' meanings -/
def opAdd : DOp := fun d e M P => match d, e with
  | .int i, .int j => P (.int (i + j)) M
  | .str a, .str b => a.length + b.length ≤ sizeLine ∧ P (.str (a ++ b)) M
  | .tup xs, .tup ys => xs.length + ys.length ≤ sizeLine ∧ P (.tup (xs ++ ys)) M
  | .ref m, .ref n => (match M[m]?, M[n]? with
    | some (.lst xs), some (.lst ys) => xs.length + ys.length ≤ sizeLine ∧ P (.ref M.length) (M ++ [.lst (xs ++ ys)])
    | _, _ => False)
  | _, _ => False
def opSub : DOp := fun d e M P => match d, e with
  | .int i, .int j => P (.int (i - j)) M
  | _, _ => False
def opMul : DOp := fun d e M P => match d, e with
  | .int i, .int j => IntMulOk i j ∧ P (.int (i * j)) M
  | .ref m, .int k => (match M[m]? with
    | some (.lst xs) => (-(2 ^ 63) ≤ k ∧ k < 2 ^ 63 ∧ xs.length * k.toNat ≤ sizeLine) ∧ P (.ref M.length) (M ++ [.lst (List.replicate k.toNat xs).flatten])
    | _ => False)
  | _, _ => False
def opDiv : DOp := fun d e M P => match d, e with
  | .int i, .int j => (0 < j ∧ j.natAbs.log2 < 9000) ∧ P (.int (i / j)) M
  | _, _ => False
def opMod : DOp := fun d e M P => match d, e with
  | .int i, .int j => 0 < j ∧ P (.int (i % j)) M
  | _, _ => False
def opPow : DOp := fun d e M P => match d, e with
  | .int i, .int j => (0 ≤ j ∧ j ≤ 1000000 ∧ i.natAbs < 2 ^ 64) ∧ P (.int (i ^ j.toNat)) M
  | _, _ => False
def opShl : DOp := fun d e M P => match d, e with
  | .int i, .int j => (0 ≤ j ∧ j ≤ 1000000 ∧ i.natAbs < 2 ^ 64) ∧ P (.int (i * 2 ^ j.toNat)) M
  | _, _ => False
def opShr : DOp := fun d e M P => match d, e with
  | .int i, .int j => 0 ≤ j ∧ P (.int (i / 2 ^ j.toNat)) M
  | _, _ => False
def opAnd : DOp := fun d e M P => match d, e with
  | .int i, .int j => P (.int (Builtin.bitAnd i j)) M
  | _, _ => False
def opOr : DOp := fun d e M P => match d, e with
  | .int i, .int j => P (.int (Builtin.bitOr i j)) M
  | _, _ => False
def opXor : DOp := fun d e M P => match d, e with
  | .int i, .int j => P (.int (Builtin.bitXor i j)) M
  | _, _ => False
def opNeg : DUn := fun d M P => match d with
  | .int i => P (.int (-i)) M
  | _ => False
/-- < of two ints, texts -/
def opLt : DOp := fun d e M P => match d, e with
  | .int i, .int j => P (.bl (decide (i < j))) M
  | .str a, .str b => P (.bl (decide (a.cps.toList < b.cps.toList))) M
  | _, _ => False
def opLe : DOp := fun d e M P => match d, e with
  | .int i, .int j => P (.bl (decide (i ≤ j))) M
  | _, _ => False
def opGt : DOp := fun d e M P => match d, e with
  | .int i, .int j => P (.bl (decide (j < i))) M
  | _, _ => False
def opGe : DOp := fun d e M P => match d, e with
  | .int i, .int j => P (.bl (decide (j ≤ i))) M
  | _, _ => False
def opEq : DOp := fun d e M P => match pyM M d, pyM M e with
  | some p, some q => (SeqAt.shaped p = true ∧ SeqAt.shaped q = true) ∧ P (.bl (PyData.eqv p q)) M
  | _, _ => False
def opNe : DOp := fun d e M P => match pyM M d, pyM M e with
  | some p, some q => (SeqAt.shaped p = true ∧ SeqAt.shaped q = true) ∧ P (.bl (!PyData.eqv p q)) M
  | _, _ => False
def isNon : D → Bool
  | .non => true
  | _ => false
def opIs : DOp := fun d e M P => match e with
  | .non => P (.bl (isNon d)) M
  | .bl c => (match d with
    | .bl b => P (.bl (decide (b = c))) M
    | _ => False)
  | _ => False
def opIsNot : DOp := fun d e M P => match e with
  | .non => P (.bl (!isNon d)) M
  | .bl c => (match d with
    | .bl b => P (.bl (!decide (b = c))) M
    | _ => False)
  | _ => False
/-- the items of a list or tuple -/
def seqOf (M : Mem) : D → Option (List D)
  | .tup xs => some xs
  | .kup xs => some xs
  | .rol xs => some xs
  | .ref n => (match M[n]? with
    | some (.lst xs) => some xs
    | _ => none)
  | _ => none
def flat? : D → Bool
  | .non => true
  | .bl _ => true
  | .int _ => true
  | .str _ => true
  | _ => false
def isList (M : Mem) : D → Bool
  | .rol _ => true
  | .ref _ => true
  | _ => false
def keyK : D → Option Key
  | .int i => some (.inl i)
  | .str z => some (.inr z)
  | _ => none
def keysK : List D → Option (List Key)
  | [] => some []
  | d :: ds => (keyK d).bind fun k => (keysK ds).map fun ks => k :: ks
def keyT : D → Option (List Key)
  | .tup xs => keysK xs
  | _ => none
section
variable {κ : Type} [DecidableEq κ]
def valD (kvs : List (κ × D)) (k : κ) : Option D := (kvs.find? fun kv => decide (kv.1 = k)).map (·.2)
def putD (kvs : List (κ × D)) (k : κ) (v : D) : List (κ × D) :=
  if (kvs.any fun kv => decide (kv.1 = k)) = true then kvs.map (fun kv => if kv.1 = k then (kv.1, v) else kv) else kvs ++ [(k, v)]
end
/-- what a dict has at a key -/
def dgetD (M : Mem) (n : Nat) (k : D) : Option (Option D) := match M[n]? with
  | some (.dK kvs) => (keyK k).map (valD kvs)
  | some (.dT kvs) => (keyT k).map (valD kvs)
  | _ => none
def inD (neg : Bool) : DOp := fun x y M P => match seqOf M y with
  | some ys => ((flat? x = true ∧ ys.all flat? = true) ∨ (isList M y = true ∧ pure? x = true ∧ pures? ys = true ∧ SeqAt.shaped (toPy x) = true ∧ SeqAt.shaped (.list (toPys ys)) = true)) ∧
    P (.bl (if neg = true then !(toPys ys).any (fun z => PyData.eqv z (toPy x)) else (toPys ys).any fun z => PyData.eqv z (toPy x))) M
  | none => (match y with
    | .ref n => (match dgetD M n x with
      | some o => P (.bl (if neg = true then !o.isSome else o.isSome)) M
      | none => False)
    | _ => False)
def opIx : DOp := fun x y M P => match x with
  | .str z => (match y with
    | .int i => z.length ≤ sizeLine ∧ (match atI z.cps.toList i with
      | some c => P (.str ⟨#[c]⟩) M
      | none => False)
    | _ => False)
  | x => (match seqOf M x with
    | some xs => (match y with
      | .int i => (match atI xs i with
        | some d => P d M
        | none => False)
      | _ => False)
    | none => (match x with
      | .ref n => (match dgetD M n y with
        | some (some d) => P d M
        | _ => False)
      | _ => False))

section
variable {X : Cx} {fa : Org}
theorem o_add : OpR X (binaryOp .Add) (LO X.K fa opAdd) := ((op_add.or op_add_str).or (op_catA.or op_cat)).imp fun x y H Q ⟨M, α, d, e, P, st, rx, ry, h, an⟩ => by
  unfold opAdd at h
  split at h
  · cases rx; cases ry; exact .inl (.inl ⟨_, _, rfl, rfl, an.here st (.int _) h⟩)
  · cases rx; cases ry; exact .inl (.inr ⟨_, _, rfl, rfl, h.1, an.here st (.str _) h.2⟩)
  · cases rx with
    | @tup a vs _ s l r =>
      cases ry with
      | @tup b ws _ s2 l2 r2 =>
        have hl : vs.length + ws.length ≤ sizeLine := by rw [r.length, r2.length]; exact h.1
        refine .inr (.inl ⟨a, b, vs, ws, rfl, rfl, .inl (.inl s), .inl (.inl s2), hl, fun e => ?_, fun _ e => ?_, fun _ _ p hp => ?_⟩)
        · subst e; cases r
          exact an.here st (.tup s2 l2 r2) h.2
        · subst e; cases r2
          have h2 := h.2
          rw [List.append_nil] at h2
          exact an.here st (.tup s l r) h2
        · exact an.tup st (r.append r2) (by rw [List.length_append]; exact hl) hp h.2
  · cases rx with
    | @ref m a ea =>
      cases ry with
      | @ref n b eb =>
        split at h
        · rename_i xs ys q1 q2
          obtain ⟨vs, hv, _, r⟩ := st.cell _ _ a q1 ea
          obtain ⟨ws, hw, _, r2⟩ := st.cell _ _ b q2 eb
          exact .inr (.inr ⟨a, b, vs, ws, rfl, rfl, hv, hw, by rw [r.length, r2.length]; exact h.1, fun p hp => an.lst st (r.append r2) (by rw [List.length_append, r.length, r2.length]; exact h.1) hp h.2⟩)
        · exact h.elim
  · exact h.elim
theorem o_sub : OpR X (binaryOp .Sub) (LO X.K fa opSub) := op_sub.imp fun x y H Q ⟨M, α, d, e, P, st, rx, ry, h, an⟩ => by
  unfold opSub at h
  split at h
  · cases rx; cases ry; exact ⟨_, _, rfl, rfl, an.here st (.int _) h⟩
  · exact h.elim
theorem rep_len {α : Type} (xs : List α) : ∀ n : Nat, (List.replicate n xs).flatten.length = n * xs.length
  | 0 => by simp
  | n + 1 => by rw [List.replicate_succ, List.flatten_cons, List.length_append, rep_len xs n, Nat.succ_mul, Nat.add_comm]
theorem op_mulG : OpR X (binaryOp .Mult) (rI IntMulOk fun i j => .int (i * j)) := opI fun _ _ _ _ _ _ _ hc q => mul_int q hc
theorem o_mul : OpR X (binaryOp .Mult) (LO X.K fa opMul) := (op_mulG.or op_rep).imp fun x y H Q ⟨M, α, d, e, P, st, rx, ry, h, an⟩ => by
  unfold opMul at h
  split at h
  · cases rx; cases ry; exact .inl ⟨_, _, rfl, rfl, h.1, an.here st (.int _) h.2⟩
  · cases rx with
    | @ref m a ea =>
      cases ry
      split at h
      · rename_i xs q1
        obtain ⟨vs, hv, _, r⟩ := st.cell _ _ a q1 ea
        exact .inr ⟨a, _, vs, rfl, rfl, hv, h.1.1, h.1.2.1, by rw [r.length]; exact h.1.2.2, fun p hp => an.lst st (r.rep _) (by rw [rep_len, r.length, Nat.mul_comm]; exact h.1.2.2) hp h.2⟩
      · exact h.elim
  · exact h.elim
theorem o_div : OpR X (binaryOp .FloorDiv) (LO X.K fa opDiv) := op_fdivW.imp fun x y H Q ⟨M, α, d, e, P, st, rx, ry, h, an⟩ => by
  unfold opDiv at h
  split at h
  · cases rx; cases ry; exact ⟨_, _, rfl, rfl, h.1, an.here st (.int _) h.2⟩
  · exact h.elim
theorem o_mod : OpR X (binaryOp .Mod) (LO X.K fa opMod) := op_mod.imp fun x y H Q ⟨M, α, d, e, P, st, rx, ry, h, an⟩ => by
  unfold opMod at h
  split at h
  · cases rx; cases ry; exact ⟨_, _, rfl, rfl, h.1, an.here st (.int _) h.2⟩
  · exact h.elim
theorem o_pow : OpR X (binaryOp .Pow) (LO X.K fa opPow) := op_pow.imp fun x y H Q ⟨M, α, d, e, P, st, rx, ry, h, an⟩ => by
  unfold opPow at h
  split at h
  · cases rx; cases ry; exact ⟨_, _, rfl, rfl, h.1, an.here st (.int _) h.2⟩
  · exact h.elim
theorem o_shl : OpR X (binaryOp .LShift) (LO X.K fa opShl) := op_shl.imp fun x y H Q ⟨M, α, d, e, P, st, rx, ry, h, an⟩ => by
  unfold opShl at h
  split at h
  · cases rx; cases ry; exact ⟨_, _, rfl, rfl, h.1, an.here st (.int _) h.2⟩
  · exact h.elim
theorem o_shr : OpR X (binaryOp .RShift) (LO X.K fa opShr) := op_shr.imp fun x y H Q ⟨M, α, d, e, P, st, rx, ry, h, an⟩ => by
  unfold opShr at h
  split at h
  · cases rx; cases ry; exact ⟨_, _, rfl, rfl, h.1, an.here st (.int _) h.2⟩
  · exact h.elim
theorem o_and : OpR X (binaryOp .BitAnd) (LO X.K fa opAnd) := op_and.imp fun x y H Q ⟨M, α, d, e, P, st, rx, ry, h, an⟩ => by
  unfold opAnd at h
  split at h
  · cases rx; cases ry; exact ⟨_, _, rfl, rfl, an.here st (.int _) h⟩
  · exact h.elim
theorem o_or : OpR X (binaryOp .BitOr) (LO X.K fa opOr) := op_or.imp fun x y H Q ⟨M, α, d, e, P, st, rx, ry, h, an⟩ => by
  unfold opOr at h
  split at h
  · cases rx; cases ry; exact ⟨_, _, rfl, rfl, an.here st (.int _) h⟩
  · exact h.elim
theorem o_xor : OpR X (binaryOp .BitXor) (LO X.K fa opXor) := op_xor.imp fun x y H Q ⟨M, α, d, e, P, st, rx, ry, h, an⟩ => by
  unfold opXor at h
  split at h
  · cases rx; cases ry; exact ⟨_, _, rfl, rfl, an.here st (.int _) h⟩
  · exact h.elim
theorem o_neg : UnR X (unaryOp .USub) (LU X.K fa opNeg) := un_neg.imp fun x H Q ⟨M, α, d, P, st, rx, h, an⟩ => by
  unfold opNeg at h
  split at h
  · cases rx; exact ⟨_, rfl, an.here st (.int _) h⟩
  · exact h.elim
theorem o_lt : OpR X (compareOp .Lt) (LO X.K fa opLt) := (op_lt.or op_lt_str).imp fun x y H Q ⟨M, α, d, e, P, st, rx, ry, h, an⟩ => by
  unfold opLt at h
  split at h
  · cases rx; cases ry; exact .inl ⟨_, _, rfl, rfl, an.here st (.bl _) h⟩
  · cases rx; cases ry; exact .inr ⟨_, _, rfl, rfl, an.here st (.bl _) h⟩
  · exact h.elim
theorem o_le : OpR X (compareOp .LtE) (LO X.K fa opLe) := op_le.imp fun x y H Q ⟨M, α, d, e, P, st, rx, ry, h, an⟩ => by
  unfold opLe at h
  split at h
  · cases rx; cases ry; exact ⟨_, _, rfl, rfl, an.here st (.bl _) h⟩
  · exact h.elim
theorem o_gt : OpR X (compareOp .Gt) (LO X.K fa opGt) := op_gt.imp fun x y H Q ⟨M, α, d, e, P, st, rx, ry, h, an⟩ => by
  unfold opGt at h
  split at h
  · cases rx; cases ry; exact ⟨_, _, rfl, rfl, an.here st (.bl _) h⟩
  · exact h.elim
theorem o_ge : OpR X (compareOp .GtE) (LO X.K fa opGe) := op_ge.imp fun x y H Q ⟨M, α, d, e, P, st, rx, ry, h, an⟩ => by
  unfold opGe at h
  split at h
  · cases rx; cases ry; exact ⟨_, _, rfl, rfl, an.here st (.bl _) h⟩
  · exact h.elim
theorem o_eq (hu : X.A.units + 64 < cLine) : OpR X (compareOp .Eq) (LO X.K fa opEq) := (op_eqD hu).imp fun x y H Q ⟨M, α, d, e, P, st, rx, ry, h, an⟩ => by
  unfold opEq at h
  split at h
  · rename_i p q h1 h2
    exact ⟨p, q, pyM_dp st rx h1, pyM_dp st ry h2, h.1.1, h.1.2, an.here st (.bl _) h.2⟩
  · exact h.elim
theorem o_ne (hu : X.A.units + 64 < cLine) : OpR X (compareOp .NotEq) (LO X.K fa opNe) := (op_neD hu).imp fun x y H Q ⟨M, α, d, e, P, st, rx, ry, h, an⟩ => by
  unfold opNe at h
  split at h
  · rename_i p q h1 h2
    exact ⟨p, q, pyM_dp st rx h1, pyM_dp st ry h2, h.1.1, h.1.2, an.here st (.bl _) h.2⟩
  · exact h.elim
theorem isNon_v {K : PySem.W.Frag} {α : List Addr} {H : Hp} {v : V} {d : D} (r : Rp K fa α H v d) : decide (v = .non) = isNon d := by
  cases r <;> rfl
theorem o_is : OpR X (compareOp .Is) (LO X.K fa opIs) := (op_isN.or op_is_bl).imp fun x y H Q ⟨M, α, d, e, P, st, rx, ry, h, an⟩ => by
  unfold opIs at h
  split at h
  · cases ry
    rw [← isNon_v rx] at h
    exact .inl ⟨rfl, an.here st (.bl _) h⟩
  · cases ry
    split at h
    · cases rx; exact .inr ⟨_, _, rfl, rfl, an.here st (.bl _) h⟩
    · exact h.elim
  · exact h.elim
theorem o_isnot : OpR X (compareOp .IsNot) (LO X.K fa opIsNot) := (op_notN.or op_isnot_bl).imp fun x y H Q ⟨M, α, d, e, P, st, rx, ry, h, an⟩ => by
  unfold opIsNot at h
  split at h
  · cases ry
    rw [← isNon_v rx] at h
    exact .inl ⟨rfl, an.here st (.bl _) h⟩
  · cases ry
    split at h
    · cases rx; exact .inr ⟨_, _, rfl, rfl, an.here st (.bl _) h⟩
    · exact h.elim
  · exact h.elim
end

/-! ### lists and tuples as they are read -/
section
variable {K : PySem.W.Frag} {fa : Org} {α : List Addr} {H : Hp} {M : Mem}
theorem seq_v {v : V} {d : D} {xs : List D} (st : StR K fa α H M) (r : Rp K fa α H v d) (h : seqOf M d = some xs) :
    ∃ a vs, v = .ref a ∧ (SqL K H a vs ∨ SqT K H a vs) ∧ Rps K fa α H vs xs := by
  cases r with
  | @tup a vs ds s l r => cases h; exact ⟨a, vs, rfl, .inr (.inl (.inl s)), r⟩
  | @kup a vs ds s l r => cases h; exact ⟨a, vs, rfl, .inr (s H), r⟩
  | @rol a vs ds s l r => cases h; exact ⟨a, vs, rfl, .inl (s.elim (fun z => .inl (.inr z)) fun z => z H), r⟩
  | @ref n a ea =>
    have h : (match M[n]? with
      | some (.lst xs) => some xs
      | _ => none) = some xs := h
    cases q : M[n]? with
    | none => rw [q] at h; cases h
    | some c =>
      rw [q] at h
      cases c with
      | lst ys =>
        cases h
        obtain ⟨vs, hv, _, r⟩ := st.cell n _ a q ea
        exact ⟨a, vs, rfl, .inl (.inl (.inl hv)), r⟩
      | dK _ => cases h
      | dT _ => cases h
  | _ => cases h
theorem Rp.flat {v : V} {d : D} (r : Rp K fa α H v d) (h : flat? d = true) : flatV v = true := by
  cases r <;> first | rfl | cases h
theorem eqV_py {v w : V} {d e : D} (r : Rp K fa α H v d) (s : Rp K fa α H w e) (h1 : flat? d = true) (h2 : flat? e = true) : eqV v w = PyData.eqv (toPy d) (toPy e) := by
  cases r <;> first
    | (cases h1; done)
    | (cases s <;> first | (cases h2; done) | rfl | (simp [eqV, toPy, PyData.eqv]))
theorem Rps.flat : ∀ {vs : List V} {ds : List D}, Rps K fa α H vs ds → ds.all flat? = true → vs.all flatV = true
  | _, _, .nil, _ => rfl
  | _, _, .cons h t, q => by
    rw [List.all_cons, Bool.and_eq_true] at q ⊢
    exact ⟨h.flat q.1, Rps.flat t q.2⟩
theorem inV_py {x : V} {d : D} (r : Rp K fa α H x d) (h1 : flat? d = true) : ∀ {vs : List V} {ds : List D}, Rps K fa α H vs ds → ds.all flat? = true → inV x vs = (toPys ds).any fun z => PyData.eqv z (toPy d)
  | _, _, .nil, _ => rfl
  | _, _, .cons h t, q => by
    rw [List.all_cons, Bool.and_eq_true] at q
    show (eqV _ x || _) = (PyData.eqv _ _ || _)
    rw [eqV_py h r q.1 h1]
    exact congrArg _ (inV_py r h1 t q.2)
theorem Rps.at {vs : List V} {ds : List D} {i : Int} {d : D} (r : Rps K fa α H vs ds) (h : atI ds i = some d) : ∃ v, atI vs i = some v ∧ Rp K fa α H v d := by
  unfold atI at h ⊢
  rw [r.length]
  cases q : ixN ds.length i with
  | none => rw [q] at h; cases h
  | some j =>
    rw [q] at h
    exact r.get (i := j) h
theorem Rp.keyK {v : V} {d : D} {k : Key} (r : Rp K fa α H v d) (h : keyK d = some k) : v = kV k := by
  cases r <;> first | (cases h; rfl) | cases h
theorem Rps.keysK : ∀ {vs : List V} {ds : List D} {ks : List Key}, Rps K fa α H vs ds → DL.keysK ds = some ks → vs = ks.map kV
  | _, _, _, .nil, h => by cases h; rfl
  | _, _, ks, .cons r t, h => by
    obtain ⟨k, h1, h2⟩ := Option.bind_eq_some_iff.mp h
    obtain ⟨l, h3, h4⟩ := Option.map_eq_some_iff.mp h2
    subst h4
    rw [r.keyK h1, Rps.keysK t h3]
    rfl
section
variable {κ : Type} [DecidableEq κ]
theorem val_v {k : κ} : ∀ {ws : List (κ × V)} {kvs : List (κ × D)}, Paired (KR K fa α H) ws kvs → (∀ d, valD kvs k = some d → ∃ v, valV ws k = some v ∧ Rp K fa α H v d) ∧ (valD kvs k).isSome = (valV ws k).isSome
  | _, _, .nil => ⟨fun _ h => (by cases h), rfl⟩
  | (k1, v) :: ws, (k2, d) :: kvs, .cons ⟨e, r⟩ t => by
    have e : k1 = k2 := e
    subst e
    have ih := val_v (k := k) t
    by_cases hk : k1 = k
    · subst hk
      have e1 : valD ((k1, d) :: kvs) k1 = some d := by simp [valD, List.find?_cons]
      have e2 : valV ((k1, v) :: ws) k1 = some v := valV_pos rfl
      rw [e1, e2]
      exact ⟨fun x h => by cases h; exact ⟨v, rfl, r⟩, rfl⟩
    · have e1 : valD ((k1, d) :: kvs) k = valD kvs k := by simp [valD, List.find?_cons, hk]
      have e2 : valV ((k1, v) :: ws) k = valV ws k := valV_neg hk
      rw [e1, e2]
      exact ih
theorem any_v {k : κ} : ∀ {ws : List (κ × V)} {kvs : List (κ × D)}, Paired (KR K fa α H) ws kvs → (ws.any fun kv => decide (kv.1 = k)) = kvs.any fun kv => decide (kv.1 = k)
  | _, _, .nil => rfl
  | (k1, v) :: ws, (k2, d) :: kvs, .cons ⟨e, r⟩ t => by
    have e : k1 = k2 := e
    subst e
    rw [List.any_cons, List.any_cons, any_v t]
theorem put_v {k : κ} {v : V} {d : D} (r : Rp K fa α H v d) {ws : List (κ × V)} {kvs : List (κ × D)} (h : Paired (KR K fa α H) ws kvs) : Paired (KR K fa α H) (putK ws k v) (putD kvs k d) := by
  unfold putK putD
  rw [any_v h]
  split
  · have go : ∀ {ws : List (κ × V)} {kvs : List (κ × D)}, Paired (KR K fa α H) ws kvs → Paired (KR K fa α H) (ws.map fun kv => if kv.1 = k then (kv.1, v) else kv) (kvs.map fun kv => if kv.1 = k then (kv.1, d) else kv) := by
      intro ws kvs h
      induction h with
      | nil => exact .nil
      | @cons a b as bs hab t ih =>
        obtain ⟨k1, v1⟩ := a
        obtain ⟨k2, d2⟩ := b
        obtain ⟨e, r2⟩ := hab
        have e : k1 = k2 := e
        subst e
        refine .cons ?_ ih
        by_cases hk : k1 = k
        · simp only [hk, if_true]; exact ⟨rfl, r⟩
        · simp only [hk, if_false]; exact ⟨rfl, r2⟩
    exact go h
  · have go : ∀ {ws : List (κ × V)} {kvs : List (κ × D)}, Paired (KR K fa α H) ws kvs → Paired (KR K fa α H) (ws ++ [(k, v)]) (kvs ++ [(k, d)]) := by
      intro ws kvs h
      induction h with
      | nil => exact .cons ⟨rfl, r⟩ .nil
      | cons hab t ih => exact .cons hab ih
    exact go h
end
theorem dget_v {v : V} {n : Nat} {a : Addr} {k : D} {o : Option D} (st : StR K fa α H M) (ea : α[n]? = some a) (r : Rp K fa α H v k) (h : dgetD M n k = some o) :
    ∃ ov, DGet H a v ov ∧ o.isSome = ov.isSome ∧ ∀ d, o = some d → ∃ w, ov = some w ∧ Rp K fa α H w d := by
  unfold dgetD at h
  split at h
  · rename_i kvs q
    obtain ⟨ws, hw, p⟩ := st.cell n _ a q ea
    obtain ⟨key, h1, h2⟩ := Option.map_eq_some_iff.mp h
    subst h2
    obtain ⟨f1, f2⟩ := val_v (k := key) p
    refine ⟨valV ws key, ?_, f2, fun d e => f1 d e⟩
    rw [r.keyK h1]
    exact DGet.k hw
  · rename_i kvs q
    obtain ⟨ws, hw, p⟩ := st.cell n _ a q ea
    obtain ⟨key, h1, h2⟩ := Option.map_eq_some_iff.mp h
    subst h2
    obtain ⟨f1, f2⟩ := val_v (k := key) p
    cases r with
    | @tup b vs ds s l r =>
      refine ⟨valV ws key, ?_, f2, fun d e => f1 d e⟩
      have e : vs = key.map kV := r.keysK h1
      subst e
      exact DGet.t hw s
    | _ => cases h1
  · cases h
end

section
variable {X : Cx} {fa : Org}
def rDIn (neg : Bool) : R2 := fun y x H Q => ∃ a o, x = .ref a ∧ DGet H a y o ∧ Q (.bl (if neg = true then !o.isSome else o.isSome)) H
theorem op_din (hu : X.A.units + 1 < cLine) : OpR X (compareOp .In) (rDIn false) := fun pins s σ H y x u v Q I ry rx ⟨a, o, e, g, q⟩ => by
  subst e
  obtain rfl : v = Value.ref a := rx
  exact d_in hu I g ry fun s3 I3 => ⟨.bl o.isSome, H, I3, rfl, q⟩
theorem op_dnotin (hu : X.A.units + 1 < cLine) : OpR X (compareOp .NotIn) (rDIn true) := fun pins s σ H y x u v Q I ry rx ⟨a, o, e, g, q⟩ => by
  subst e
  obtain rfl : v = Value.ref a := rx
  exact d_notIn hu I g ry fun s3 I3 => ⟨.bl (!o.isSome), H, I3, rfl, q⟩
theorem in_go {neg : Bool} {x y : V} {H : Hp} {Q : VK} (h : LO X.K fa (inD neg) x y H Q) : rIn X.K neg x y H Q ∨ (∃ d ds, Dp X.K H x d ∧ Dp X.K H y (.list ds) ∧ SeqAt.shaped d = true ∧ SeqAt.shaped (.list ds) = true ∧ Q (.bl (if neg = true then !ds.any (fun z => PyData.eqv z d) else ds.any fun z => PyData.eqv z d)) H) ∨ rDIn neg x y H Q := by
  obtain ⟨M, α, d, e, P, st, rx, ry, h, an⟩ := h
  unfold inD at h
  split at h
  · rename_i ys hs
    obtain ⟨h1, h⟩ := h
    rcases h1 with ⟨f1, f2⟩ | ⟨l1, p1, p2, z1, z2⟩
    · obtain ⟨a, vs, e, hq, r⟩ := seq_v st ry hs
      rw [← inV_py rx f1 r f2] at h
      exact .inl ⟨a, vs, e, hq, rx.flat f1, r.flat f2, an.here st (.bl _) h⟩
    · refine .inr (.inl ⟨toPy d, toPys ys, rx.dp p1, ?_, z1, z2, an.here st (.bl _) h⟩)
      cases ry with
      | @rol a vs ds s l r => cases hs; exact .lst (s.elim (fun z => .inl (.inr z)) fun z => z H) (r.dp p2)
      | @ref n a ea =>
        obtain ⟨b, vs, e, hq, r⟩ := seq_v st (.ref ea) hs
        cases e
        have hs : (match M[n]? with
          | some (.lst xs) => some xs
          | _ => none) = some ys := hs
        cases q : M[n]? with
        | none => rw [q] at hs; cases hs
        | some c =>
          rw [q] at hs
          cases c with
          | lst zs =>
            cases hs
            obtain ⟨vs, hv, _, r⟩ := st.cell n _ a q ea
            exact .lst (.inl (.inl hv)) (r.dp p2)
          | dK _ => cases hs
          | dT _ => cases hs
      | _ => cases l1
  · split at h
    · split at h
      · rename_i o hd
        cases ry with
        | ref ea =>
          obtain ⟨ov, g, f1, f2⟩ := dget_v st ea rx hd
          rw [f1] at h
          exact .inr (.inr ⟨_, ov, rfl, g, an.here st (.bl _) h⟩)
      · exact h.elim
    · exact h.elim
theorem o_in (hu : X.A.units + 65 < cLine) : OpR X (compareOp .In) (LO X.K fa (inD false)) := (op_in_seq.or ((op_inD hu).or (op_din (by omega)))).imp fun x y H Q h => in_go h
theorem o_notin (hu : X.A.units + 65 < cLine) : OpR X (compareOp .NotIn) (LO X.K fa (inD true)) := (op_notIn_seq.or ((op_notInD hu).or (op_dnotin (by omega)))).imp fun x y H Q h => in_go h
def rIxDc : R2 := fun x y H Q => ∃ a v, x = .ref a ∧ DGet H a y (some v) ∧ Q v H
theorem ix_dict (hu : X.A.units + 1 < cLine) : IxR X rIxDc := fun value slice pins s σ H x y v u Q I rx ry ⟨a, w, e, g, q⟩ hs => by
  subst e
  obtain rfl : v = Value.ref a := rx
  unfold subscriptTail
  refine wpAny_bind ?_
  rw [getitemInPython_of_ne (dict_typeIs I g).not_modules]
  refine wpAny_bind (wpAny_specialOf (dict_typeIs I g) PySem.F.slot_dict_getitem.lookup ?_)
  have fin : wpAny (model X.prog X.w) X.A (subscripted slice false (.ref a) u) (fun r s₃ => wpAny (model X.prog X.w) X.A (letTemporaryGo value (.ref a) r >>= fun _ => pure r) (EP X pins σ Q) X.xe s₃) X.xe s := by
    rw [hs]
    exact wpAny_operating (d_getItem hu I g ry fun w' s3 I3 rw' => wpAny_bind (wpAny_letTemporaryGo (wpAny_pure ⟨w, H, I3, rw', q⟩)))
  first
    | exact wpAny_pure (wpAny_bind fin)
    | exact wpAny_bind (wpAny_pure (wpAny_bind fin))
    | exact wpAny_bind fin
theorem ix_go {x y : V} {H : Hp} {Q : VK} (h : LO X.K fa opIx x y H Q) : rIx X.K x y H Q ∨ rIxDc x y H Q := by
  obtain ⟨M, α, d, e, P, st, rx, ry, h, an⟩ := h
  unfold opIx at h
  split at h
  · split at h
    · obtain ⟨hl, h⟩ := h
      split at h
      · rename_i c hc
        cases rx; cases ry
        exact .inl (.inr (.inr ⟨_, _, c, rfl, rfl, hl, hc, an.here st (.str _) h⟩))
      · exact h.elim
    · exact h.elim
  · split at h
    · rename_i xs hs
      split at h
      · split at h
        · rename_i g hg
          cases ry
          obtain ⟨a, vs, e, hq, r⟩ := seq_v st rx hs
          obtain ⟨v, hv, rv⟩ := r.at hg
          rcases hq with hq | hq
          · exact .inl (.inl ⟨a, vs, _, v, e, rfl, hq, hv, an.here st rv h⟩)
          · exact .inl (.inr (.inl ⟨a, vs, _, v, e, rfl, hq, hv, an.here st rv h⟩))
        · exact h.elim
      · exact h.elim
    · split at h
      · split at h
        · rename_i g hg
          cases rx with
          | ref ea =>
            obtain ⟨ov, hd, _, f2⟩ := dget_v st ea ry hg
            obtain ⟨w, e, rw'⟩ := f2 _ rfl
            subst e
            exact .inr ⟨_, w, rfl, hd, an.here st rw' h⟩
        · exact h.elim
      · exact h.elim
theorem i_ix (hu : X.A.units + 1 < cLine) : IxR X (LO X.K fa opIx) := (ix_seq.or (ix_dict hu)).imp fun x y H Q h => ix_go h
end
end DL
/-! The data layer, part 4: statements, targets, loops, comprehensions. -/
namespace L2
open PySem PySem.Spec PyProof.Rows
theorem PS.imp {X : Cx} {e : Stmt} {t t' : TS} (h : PS X e t) (i : ∀ D σ H, t' D σ H → t D σ H) : PS X e t' := ⟨fun pins s σ H D I q => h.run pins s σ H D I (i D σ H q)⟩
theorem PSs.imp {X : Cx} {e : List Stmt} {t t' : TS} (h : PSs X e t) (i : ∀ D σ H, t' D σ H → t D σ H) : PSs X e t' := ⟨fun pins s σ H D I q => h.run pins s σ H D I (i D σ H q)⟩
theorem PG.imp {X : Cx} {e : Expr} {t t' : TG} (h : PG X e t) (i : ∀ v σ H Q, t' v σ H Q → t v σ H Q) : PG X e t' := ⟨fun pins s σ H v u Q I r q => h.run pins s σ H v u Q I r (i v σ H Q q)⟩
theorem PGs.imp {X : Cx} {e : List Expr} {t t' : TGs} (h : PGs X e t) (i : ∀ v σ H Q, t' v σ H Q → t v σ H Q) : PGs X e t' := ⟨fun pins s σ H v u Q I r q => h.run pins s σ H v u Q I r (i v σ H Q q)⟩
theorem PI.imp {X : Cx} {tg e : Expr} {t t' : TI} (h : PI X tg e t) (i : ∀ σ H R, t' σ H R → t σ H R) : PI X tg e t' := ⟨fun pins s σ H R I q => h.run pins s σ H R I (i σ H R q)⟩
theorem PTs.imp {X : Cx} {e : List Expr} {t t' : TT} (h : PTs X e t) (i : ∀ σ H Q, t' σ H Q → t σ H Q) : PTs X e t' := ⟨fun pins s σ H Q I q => h.run pins s σ H Q I (i σ H Q q)⟩
theorem PSet.or {X : Cx} {t u : TSet} (h : PSet X t) (g : PSet X u) : PSet X (fun o i v H Q => t o i v H Q ∨ u o i v H Q) := fun pins s σ H o i v ov iv w Q I ro ri rv q => q.elim (h pins s σ H o i v ov iv w Q I ro ri rv) (g pins s σ H o i v ov iv w Q I ro ri rv)
theorem PSet.imp {X : Cx} {t t' : TSet} (h : PSet X t) (g : ∀ o i v H Q, t' o i v H Q → t o i v H Q) : PSet X t' := fun pins s σ H o i v ov iv w Q I ro ri rv q => h pins s σ H o i v ov iv w Q I ro ri rv (g o i v H Q q)
/-- a list or a tuple, walked -/
def iSq (K : PySem.W.Frag) (tl : TE) : TI := fun σ H R => tl σ H fun x H1 => ∃ a, x = .ref a ∧ (((∃ xs, SqL K H1 a xs) ∧ R (Itl K a) H1) ∨ ((∃ xs, SqT K H1 a xs) ∧ R (Itt K a) H1))
theorem pi_sq {X : Cx} {tg l : Expr} {tl : TE} (hl : PE X l tl) : PI X tg l (iSq X.K tl) := by
  refine ⟨fun pins s σ H R I h => ?_⟩
  refine thn (hl.run pins s σ H _ I h) fun v s1 ⟨x, H1, I1, r1, q1⟩ => ?_
  obtain ⟨a, e, q⟩ := q1
  subst e
  cases r1
  rcases q with ⟨⟨xs, hq⟩, q⟩ | ⟨⟨xs, hq⟩, q⟩
  · obtain ⟨its, rv, p, hz⟩ := I1.list hq
    refine wpAny_pyIter_list p.isList ?_
    refine ⟨s1.heap.objs.size, [s1.heap.objs.size], _, _, H1, rfl, I1.kept (t' := s1.toks) fun b o e => Heap.get?_push_of_some _ e, turn_list a _, ⟨_, Heap.get?_push_size _ rfl, rfl, rfl⟩, fun b hb => ?_, q⟩
    have e : b = s1.heap.objs.size := by simpa using hb
    subst e
    exact I1.fpOk (Nat.le_refl _) (I1.hok.fresh (Nat.le_refl _))
  · obtain ⟨its, rv, p, hz⟩ := I1.tuple hq
    refine wpAny_pyIter_tuple (show s1.heap.IsTuple a its.toArray from p) ?_
    refine ⟨s1.heap.objs.size, [s1.heap.objs.size], _, _, H1, rfl, I1.kept (t' := s1.toks) fun b o e => Heap.get?_push_of_some _ e, turn_tuple a _, ⟨_, Heap.get?_push_size _ rfl, rfl, rfl⟩, fun b hb => ?_, q⟩
    have e : b = s1.heap.objs.size := by simpa using hb
    subst e
    exact I1.fpOk (Nat.le_refl _) (I1.hok.fresh (Nat.le_refl _))
end L2
namespace DL
open PySem PySem.Spec PyProof.Rows L2

structure EndsR (K : PySem.W.Frag) (fa : Org) (α : List Addr) (H : Hp) (E : DEnds) (D : Ends) : Prop where
  nx : ∀ (σ' : L2.St) (ρ' : Env) (H' : Hp) (α' : List Addr) (M' : Mem), Ext K H H' α α' → EnvR K fa α' H' σ' ρ' → StR K fa α' H' M' → E.nx ρ' M' → D.nx σ' H'
  rt : Ans K fa α H E.rt D.rt
  bk : ∀ (σ' : L2.St) (ρ' : Env) (H' : Hp) (α' : List Addr) (M' : Mem), Ext K H H' α α' → EnvR K fa α' H' σ' ρ' → StR K fa α' H' M' → E.bk ρ' M' → D.bk σ' H'
  ct : ∀ (σ' : L2.St) (ρ' : Env) (H' : Hp) (α' : List Addr) (M' : Mem), Ext K H H' α α' → EnvR K fa α' H' σ' ρ' → StR K fa α' H' M' → E.ct ρ' M' → D.ct σ' H'
theorem EndsR.ext {K : PySem.W.Frag} {fa : Org} {α α' : List Addr} {H H' : Hp} {E : DEnds} {D : Ends} (h : EndsR K fa α H E D) (e : Ext K H H' α α') : EndsR K fa α' H' E D :=
  ⟨fun σ2 ρ2 H2 α2 M2 e2 => h.nx σ2 ρ2 H2 α2 M2 (e.trans e2), h.rt.ext e, fun σ2 ρ2 H2 α2 M2 e2 => h.bk σ2 ρ2 H2 α2 M2 (e.trans e2), fun σ2 ρ2 H2 α2 M2 e2 => h.ct σ2 ρ2 H2 α2 M2 (e.trans e2)⟩
def LS (K : PySem.W.Frag) (fa : Org) (C : Ctx) (t : DS) : TS := fun D σ H => ∃ (ρ : Env) (M : Mem) (α : List Addr) (E : DEnds), EnvR K fa α H σ ρ ∧ StR K fa α H M ∧ t C E ρ M ∧ EndsR K fa α H E D
/-- a target; ws: the names it may store -/
def LG (K : PySem.W.Frag) (fa : Org) (C : Ctx) (ws : List Nat) (g : DG) : TG := fun v σ H Q => ∃ (ρ : Env) (M : Mem) (α : List Addr) (d : D) (P : Env → Mem → Prop), EnvR K fa α H σ ρ ∧ StR K fa α H M ∧ Rp K fa α H v d ∧ g C d ρ M P ∧
  ∀ (σ' : L2.St) (ρ' : Env) (H' : Hp) (α' : List Addr) (M' : Mem), Ext K H H' α α' → EnvR K fa α' H' σ' ρ' → StR K fa α' H' M' → (∀ vs : List Nat, (∀ i ∈ ws, i ∈ vs) → wipe σ' vs = wipe σ vs) → P ρ' M' → Q σ' H'
abbrev DGs := Ctx → List D → Env → Mem → (Env → Mem → Prop) → Prop
def LGs (K : PySem.W.Frag) (fa : Org) (C : Ctx) (ws : List Nat) (g : DGs) : TGs := fun xs σ H Q => ∃ (ρ : Env) (M : Mem) (α : List Addr) (ds : List D) (P : Env → Mem → Prop), EnvR K fa α H σ ρ ∧ StR K fa α H M ∧ Rps K fa α H xs ds ∧ g C ds ρ M P ∧
  ∀ (σ' : L2.St) (ρ' : Env) (H' : Hp) (α' : List Addr) (M' : Mem), Ext K H H' α α' → EnvR K fa α' H' σ' ρ' → StR K fa α' H' M' → (∀ vs : List Nat, (∀ i ∈ ws, i ∈ vs) → wipe σ' vs = wipe σ vs) → P ρ' M' → Q σ' H'

/-! ### meanings -/
def sNext : DS := fun _ E ρ M => E.nx ρ M
def sSeq (t u : DS) : DS := fun C E ρ M => t C { E with nx := fun ρ' M' => u C E ρ' M' } ρ M
def sBreak : DS := fun _ E ρ M => E.bk ρ M
def sCont : DS := fun _ E ρ M => E.ct ρ M
def sDrop (e : DE) : DS := fun C E ρ M => e C ρ M fun _ M1 => E.nx ρ M1
def sRet (e : DE) : DS := fun C E ρ M => e C ρ M E.rt
def sRetN : DS := fun _ E _ M => E.rt .non M
def sIf (c : DT) (t u : DS) : DS := fun C E ρ M => c C ρ M fun b M1 => if b = true then t C E ρ M1 else u C E ρ M1
def sNever : DS := fun _ _ _ _ => False
def sAsg (e : DE) (g : DG) : DS := fun C E ρ M => e C ρ M fun d M1 => g C d ρ M1 E.nx
def gName (i : Nat) : DG := fun _ d ρ M P => P (ρ.set i (some d)) M
def gNil : DGs := fun _ ds ρ M P => ds = [] ∧ P ρ M
def gCons (g : DG) (gs : DGs) : DGs := fun C ds ρ M P => match ds with
  | d :: ds => g C d ρ M fun ρ' M' => gs C ds ρ' M' P
  | [] => False
def gTup (n : Nat) (gs : DGs) : DG := fun C d ρ M P => match d with
  | .tup xs => xs.length = n ∧ gs C xs ρ M P
  | .kup xs => xs.length = n ∧ gs C xs ρ M P
  | _ => False
def opSet : D → D → D → Mem → (Mem → Prop) → Prop := fun x y d M P => match x with
  | .ref n => (match M[n]? with
    | some (.lst xs) => (match y with
      | .int k => (match ixN xs.length k with
        | some j => P (M.set n (.lst (xs.set j d)))
        | none => False)
      | _ => False)
    | some (.dK kvs) => (match keyK y with
      | some k => kvs.length < sizeLine ∧ P (M.set n (.dK (putD kvs k d)))
      | none => False)
    | some (.dT kvs) => (match keyT y with
      | some k => kvs.length < sizeLine ∧ P (M.set n (.dT (putD kvs k d)))
      | none => False)
    | _ => False)
  | _ => False
def gSub (o i : DE) : DG := fun C d ρ M P => o C ρ M fun x M1 => i C ρ M1 fun y M2 => opSet x y d M2 fun M3 => P ρ M3
def sAug (i : Nat) (e : DE) (op : DOp) : DS := fun C E ρ M => got ρ[i]? fun x => e C ρ M fun y M1 => op x y M1 fun z M2 => E.nx (ρ.set i (some z)) M2
def sPar (i j : Nat) (a : DA) : DS := fun C E ρ M => a C ρ M fun ds M1 => match ds with
  | [x, y] => E.nx ((ρ.set i (some x)).set j (some y)) M1
  | _ => False
def wloop (c : Env → Mem → (Bool → Mem → Prop) → Prop) (b : DEnds → Env → Mem → Prop) (E : DEnds) : Nat → Env → Mem → Prop
  | 0, _, _ => False
  | n + 1, ρ, M => c ρ M fun k M1 => if k = true then b { E with nx := wloop c b E n, ct := wloop c b E n, bk := E.nx } ρ M1 else E.nx ρ M1
def sWhile (c : DT) (b : DS) : DS := fun C E ρ M => ∃ n, wloop (c C) (b C) E n ρ M
def floop (g : D → Env → Mem → (Env → Mem → Prop) → Prop) (b : DEnds → Env → Mem → Prop) (E : DEnds) (grd : Mem → Prop) : List D → Env → Mem → Prop
  | [], ρ, M => grd M ∧ E.nx ρ M
  | x :: xs, ρ, M => grd M ∧ g x ρ M fun ρ' M' => b { E with nx := floop g b E grd xs, ct := floop g b E grd xs, bk := E.nx } ρ' M'
def sFor (it : DI) (g : DG) (b : DS) : DS := fun C E ρ M => it C ρ M fun xs grd M1 => floop (g C) (b C) E grd xs ρ M1
/-- items: what a loop walks -/
def grdOf (d : D) (xs : List D) : Mem → Prop := match d with
  | .ref n => fun M => M[n]? = some (.lst xs)
  | _ => fun _ => True
def iSeq (e : DE) : DI := fun C ρ M P => e C ρ M fun d M1 => match seqOf M1 d with
  | some xs => P xs (grdOf d xs) M1
  | none => False
def rngI (lo : Int) (n : Nat) : List D := (List.range n).map fun (k : Nat) => D.int (lo + (k : Int))
def iRng1 (a : DE) : DI := fun C ρ M P => a C ρ M fun d M1 => match d with
  | .int j => (-(2 ^ 62) ≤ j ∧ j.toNat ≤ sizeLine) ∧ P (rngI 0 j.toNat) (fun _ => True) M1
  | _ => False
def iRng2 (a b : DE) : DI := fun C ρ M P => a C ρ M fun d M1 => b C ρ M1 fun e M2 => match d, e with
  | .int i, .int j => ((j - i).toNat ≤ sizeLine ∧ -(2 ^ 62) ≤ i ∧ i < 2 ^ 62 ∧ -(2 ^ 62) ≤ j ∧ j < 2 ^ 62) ∧ P (rngI i (j - i).toNat) (fun _ => True) M2
  | _, _ => False
/-- range(i, j, c), c below 0 -/
def rngC (lo c : Int) (n : Nat) : List D := (List.range n).map fun (k : Nat) => D.int (lo + (k : Int) * c)
def iRng3 (a b c : DE) : DI := fun C ρ M P => a C ρ M fun d M1 => b C ρ M1 fun e M2 => c C ρ M2 fun f M3 => match d, e, f with
  | .int i, .int j, .int c => ∃ n : Nat, (n ≤ sizeLine ∧ RgC i j c n) ∧ P (rngC i c n) (fun _ => True) M3
  | _, _, _ => False

/-! ### soundness: small statements -/
section
variable {X : Cx} {fa : Org} {C : Ctx} {a b c e : Expr} {es rest : List Expr} {pos : Pos} {ta tb tc te : DE} {ua ub uc : DT} {da : DA} {st : Stmt} {sts p q : List Stmt} {t u : DS} {ws ws' : List Nat}
theorem s_nil : PSs X [] (LS X.K fa C sNext) := pss_nil.imp fun D σ H ⟨ρ, M, α, E, er, sr, h, en⟩ => en.nx σ ρ H α M Ext.refl er sr h
theorem s_cons (h1 : PS X st (LS X.K fa C t)) (h2 : PSs X sts (LS X.K fa C u)) : PSs X (st :: sts) (LS X.K fa C (sSeq t u)) :=
  (pss_cons h1 h2).imp fun D σ H ⟨ρ, M, α, E, er, sr, h, en⟩ => ⟨ρ, M, α, _, er, sr, h, ⟨fun σ' ρ' H' α' M' e' er' sr' h' => ⟨ρ', M', α', E, er', sr', h', en.ext e'⟩, en.rt, en.bk, en.ct⟩⟩
theorem s_one (h1 : PS X st (LS X.K fa C t)) : PSs X [st] (LS X.K fa C t) := pss_one h1
theorem s_pass : PS X (.Pass pos) (LS X.K fa C sNext) := ps_pass.imp fun D σ H ⟨ρ, M, α, E, er, sr, h, en⟩ => en.nx σ ρ H α M Ext.refl er sr h
theorem s_break : PS X (.Break pos) (LS X.K fa C sBreak) := ps_break.imp fun D σ H ⟨ρ, M, α, E, er, sr, h, en⟩ => en.bk σ ρ H α M Ext.refl er sr h
theorem s_cont : PS X (.Continue pos) (LS X.K fa C sCont) := ps_continue.imp fun D σ H ⟨ρ, M, α, E, er, sr, h, en⟩ => en.ct σ ρ H α M Ext.refl er sr h
theorem s_doc {x j pos'} : PS X (.Expr (.Constant (.str x) j pos) pos') (LS X.K fa C sNext) := ps_doc.imp fun D σ H ⟨ρ, M, α, E, er, sr, h, en⟩ => en.nx σ ρ H α M Ext.refl er sr h
theorem s_drop (he : PE X e (LE X.K fa C te)) (hs : swapsWith e none pos.line X.env = pure false) : PS X (.Expr e pos) (LS X.K fa C (sDrop te)) :=
  (ps_expr he hs).imp fun D σ H ⟨ρ, M, α, E, er, sr, h, en⟩ => ⟨ρ, M, α, _, er, sr, h, fun v d H' α' M' e s r p => en.nx σ ρ H' α' M' e (er.mono e) s p⟩
theorem s_ret (he : PE X e (LE X.K fa C te)) : PS X (.Return (some e) pos) (LS X.K fa C (sRet te)) :=
  (ps_ret he).imp fun D σ H ⟨ρ, M, α, E, er, sr, h, en⟩ => ⟨ρ, M, α, _, er, sr, h, en.rt⟩
theorem s_retN : PS X (.Return none pos) (LS X.K fa C sRetN) := ps_retN.imp fun D σ H ⟨ρ, M, α, E, er, sr, h, en⟩ => en.rt.here sr .non h
theorem s_if (hc : PT X c (LT X.K fa C uc)) (ha : PSs X p (LS X.K fa C t)) (hb : PSs X q (LS X.K fa C u)) : PS X (.If c p q pos) (LS X.K fa C (sIf uc t u)) :=
  (ps_if hc ha hb).imp fun D σ H ⟨ρ, M, α, E, er, sr, h, en⟩ => ⟨ρ, M, α, _, er, sr, h, fun k H' α' M' e s pk => by
    cases k with
    | true => exact ⟨ρ, M', α', E, er.mono e, s, pk, en.ext e⟩
    | false => exact ⟨ρ, M', α', E, er.mono e, s, pk, en.ext e⟩⟩
theorem s_never : PS X st (LS X.K fa C sNever) := ps_never.imp fun D σ H ⟨ρ, M, α, E, er, sr, h, en⟩ => h.elim
theorem d_never : PE X e (LE X.K fa C fun _ _ _ _ => False) := ⟨fun _ _ _ _ _ _ ⟨_, _, _, _, _, _, h, _⟩ => h.elim⟩
theorem s_asg {tg : Expr} {g : DG} (he : PE X e (LE X.K fa C te)) (hg : PG X tg (LG X.K fa C ws g)) (hs : swapsWithSole [tg] e pos.line X.env = pure false) (hw : swappedStores [tg] e X.env = pure none)
    (h1 : (assignEach [tg] X.env).map (·.2) = [assign tg X.env]) : PS X (.Assign [tg] e pos) (LS X.K fa C (sAsg te g)) :=
  (ps_asg he hg hs hw h1).imp fun D σ H ⟨ρ, M, α, E, er, sr, h, en⟩ => ⟨ρ, M, α, _, er, sr, h, fun v d H' α' M' e s r p => ⟨ρ, M', α', d, _, er.mono e, s, r, p, fun σ' ρ' H2 α2 M2 e2 er2 sr2 _ p2 => en.nx σ' ρ' H2 α2 M2 (e.trans e2) er2 sr2 p2⟩⟩
theorem s_set {i : Nat} {x : Str} {pos' : Pos} (hN : X.N.Nodup) (hi : X.N[i]? = some x) (hx : Loc X.env.scope x) (he : PE X e (LE X.K fa C te)) (hs : swapsWith e (some (.Name x pos')) pos.line X.env = pure false) (hf : X.fn x = true ∨ X.env.scope.names.lookup x = some .local) :
    PS X (.Assign [.Name x pos'] e pos) (LS X.K fa C (sAsg te (gName i))) :=
  (ps_set hN hi hx he hs hf).imp fun D σ H ⟨ρ, M, α, E, er, sr, h, en⟩ => ⟨ρ, M, α, _, er, sr, h, fun v d H' α' M' e s r p => en.nx _ _ H' α' M' e ((er.mono e).set r) s p⟩

/-! ### targets -/
theorem wipe_get {σ : L2.St} {j : Nat} : ∀ {vs : List Nat}, (wipe σ vs)[j]? = if j ∈ vs then (if j < σ.length then some none else none) else σ[j]?
  | [] => by simp [wipe]
  | v :: vs => by
    show ((wipe σ vs).set v none)[j]? = _
    by_cases hv : v = j
    · subst hv
      rw [if_pos List.mem_cons_self]
      by_cases hl : v < σ.length
      · rw [List.getElem?_set_self (by rw [wipe_length]; exact hl), if_pos hl]
      · rw [List.getElem?_eq_none (by rw [List.length_set, wipe_length]; omega), if_neg hl]
    · rw [List.getElem?_set_ne hv, wipe_get]
      have : (j ∈ v :: vs) ↔ j ∈ vs := by
        rw [List.mem_cons]
        exact ⟨fun h => h.elim (fun e => absurd e.symm hv) id, .inr⟩
      by_cases hj : j ∈ vs
      · rw [if_pos hj, if_pos (this.mpr hj)]
      · rw [if_neg hj, if_neg (fun z => hj (this.mp z))]
theorem wipe_set {σ : L2.St} {i : Nat} {x : Option V} {vs : List Nat} (h : i ∈ vs) : wipe (σ.set i x) vs = wipe σ vs := by
  apply List.ext_getElem?
  intro j
  rw [wipe_get, wipe_get, List.length_set]
  by_cases hj : j ∈ vs
  · rw [if_pos hj, if_pos hj]
  · rw [if_neg hj, if_neg hj, List.getElem?_set_ne (fun e => by subst e; exact hj h)]
theorem g_name {i : Nat} {x : Str} (hN : X.N.Nodup) (hi : X.N[i]? = some x) (hx : Loc X.env.scope x) (hf : X.fn x = true ∨ X.env.scope.names.lookup x = some .local) : PG X (.Name x pos) (LG X.K fa C [i] (gName i)) :=
  (pg_name hN hi hx hf).imp fun v σ H Q ⟨ρ, M, α, d, P, er, sr, r, h, k⟩ => k _ _ H α M Ext.refl (er.set r) sr (fun vs hv => wipe_set (hv i List.mem_cons_self)) h
theorem gs_nil : PGs X [] (LGs X.K fa C [] gNil) := pgs_nil.imp fun vs σ H Q ⟨ρ, M, α, ds, P, er, sr, r, h, k⟩ => by
  obtain ⟨e, h2⟩ := (show ds = [] ∧ P ρ M from h)
  subst e
  cases r
  exact ⟨rfl, k σ ρ H α M Ext.refl er sr (fun _ _ => rfl) h2⟩
theorem gs_cons {g : DG} {gs : DGs} (h1 : PG X e (LG X.K fa C ws g)) (h2 : PGs X es (LGs X.K fa C ws' gs)) (hs : (assignEach (e :: es) X.env).map (·.2) = assign e X.env :: (assignEach es X.env).map (·.2)) : PGs X (e :: es) (LGs X.K fa C (ws ++ ws') (gCons g gs)) :=
  (pgs_cons h1 h2 hs).imp fun vs σ H Q ⟨ρ, M, α, ds, P, er, sr, r, h, k⟩ => by
    cases r with
    | nil => exact (show False from h).elim
    | @cons v vs d ds r t =>
      refine ⟨v, vs, rfl, ρ, M, α, d, _, er, sr, r, h, fun σ' ρ' H' α' M' e er' sr' hw p => ?_⟩
      refine ⟨ρ', M', α', ds, P, er', sr', t.mono e, p, fun σ2 ρ2 H2 α2 M2 e2 er2 sr2 hw2 p2 => ?_⟩
      exact k σ2 ρ2 H2 α2 M2 (e.trans e2) er2 sr2 (fun vs hv => (hw2 vs fun i hi => hv i (List.mem_append_right _ hi)).trans (hw vs fun i hi => hv i (List.mem_append_left _ hi))) p2
theorem g_tup {gs : DGs} {k n : Nat} (hc : X.calm = true) (h : PGs X es (LGs X.K fa C ws gs)) (hn : (assignEach es X.env).length = n) (hst : (assignEach es X.env).findIdx? (·.1) = none) : PG X (.Tuple es k pos) (LG X.K fa C ws (gTup n gs)) :=
  (pg_tup hc h hn hst).imp fun v σ H Q ⟨ρ, M, α, d, P, er, sr, r, h, k⟩ => by
    cases r with
    | @tup a vs ds s l r =>
      obtain ⟨hl, h⟩ := (show ds.length = n ∧ gs C ds ρ M P from h)
      exact ⟨a, vs, rfl, .inl (.inl s), r.length.trans hl, ρ, M, α, ds, P, er, sr, r, h, k⟩
    | @kup a vs ds s l r =>
      obtain ⟨hl, h⟩ := (show ds.length = n ∧ gs C ds ρ M P from h)
      exact ⟨a, vs, rfl, s H, r.length.trans hl, ρ, M, α, ds, P, er, sr, r, h, k⟩
    | _ => exact (show False from h).elim
/-- a store by values -/
def LSet (K : PySem.W.Frag) (fa : Org) : TSet := fun o i v H Q => ∃ (M : Mem) (α : List Addr) (x y d : D) (P : Mem → Prop), StR K fa α H M ∧ Rp K fa α H o x ∧ Rp K fa α H i y ∧ Rp K fa α H v d ∧ opSet x y d M P ∧
  ∀ (H' : Hp) (M' : Mem), Ext K H H' α α → StR K fa α H' M' → P M' → Q H'
theorem p_set (hu : X.A.units + 1 < cLine) : PSet X (LSet X.K fa) := ((set_list (X := X)).or (set_dict hu)).imp fun o i v H Q ⟨M, α, x, y, d, P, sr, ro, ri, rv, h, k⟩ => by
  unfold opSet at h
  split at h
  · cases ro with
    | @ref n a ea =>
      split at h
      · rename_i xs hM
        obtain ⟨vs, hv, l, r⟩ := sr.cell _ _ _ hM ea
        split at h
        · split at h
          · rename_i j hj
            cases ri
            have ex : Ext X.K H (upd H a (.lst (vs.set j v))) α α := Ext.write hv (List.mem_of_getElem? ea) True.intro
            refine .inl ⟨a, vs, _, j, rfl, rfl, hv, by rw [r.length]; exact hj, k _ _ ex (sr.write ea hv True.intro ?_) h⟩
            exact ⟨_, upd_same, by rw [List.length_set]; exact l, (Rps.set rv j r).mono ex⟩
          · exact h.elim
        · exact h.elim
      · rename_i kvs hM
        obtain ⟨ws, hw, r⟩ := sr.cell _ _ _ hM ea
        split at h
        · rename_i key hk
          have ex : Ext X.K H (upd H a (.dK (putK ws key v))) α α := Ext.write hw (List.mem_of_getElem? ea) True.intro
          have hl : ws.length < sizeLine := by rw [Paired.length r]; exact h.1
          refine .inr ⟨a, _, rfl, by rw [ri.keyK hk]; exact DPut.k hw hl, k _ _ ex (sr.write ea hw True.intro ?_) h.2⟩
          exact ⟨_, upd_same, Paired.kr ex (put_v rv r)⟩
        · exact h.elim
      · rename_i kvs hM
        obtain ⟨ws, hw, r⟩ := sr.cell _ _ _ hM ea
        split at h
        · rename_i key hk
          have hl : ws.length < sizeLine := by rw [Paired.length r]; exact h.1
          cases ri with
          | @tup b vs ds s l rs =>
            have e : vs = key.map kV := rs.keysK hk
            subst e
            have ex : Ext X.K H (upd H a (.dT (putK ws key v))) α α := Ext.write hw (List.mem_of_getElem? ea) True.intro
            refine .inr ⟨a, _, rfl, DPut.t hw s hl, k _ _ ex (sr.write ea hw True.intro ?_) h.2⟩
            exact ⟨_, upd_same, Paired.kr ex (put_v rv r)⟩
          | _ => cases hk
        · exact h.elim
      · exact h.elim
  · exact h.elim
theorem g_sub {o i : Expr} {eo ei : DE} (hu : X.A.units + 1 < cLine) (ho : PE X o (LE X.K fa C eo)) (hi : PE X i (LE X.K fa C ei))
    (ha : ∀ v, assign (.Subscript o i pos) X.env v = (do
      let ov ← holding [v] (eval o X.env)
      let iv ← holding [v, ov] (eval i X.env)
      standAt pos
      holding [v, ov, iv] (setItem ov iv v)
      release [v, ov, iv] [])) : PG X (.Subscript o i pos) (LG X.K fa C [] (gSub eo ei)) :=
  (pg_sub ho hi (p_set (fa := fa) hu) ha).imp fun v σ H Q ⟨ρ, M, α, d, P, er, sr, r, h, k⟩ =>
    ⟨ρ, M, α, _, er, sr, h, fun x dx H1 α1 M1 e1 s1 r1 p1 => ⟨ρ, M1, α1, _, er.mono e1, s1, p1, fun y dy H2 α2 M2 e2 s2 r2 p2 =>
      ⟨M2, α2, dx, dy, d, _, s2, r1.mono e2, r2, r.mono (e1.trans e2), p2, fun H3 M3 e3 s3 p3 => k σ ρ H3 α2 M3 ((e1.trans e2).trans e3) (er.mono ((e1.trans e2).trans e3)) s3 (fun _ _ => rfl) p3⟩⟩⟩
/-- name op= e -/
def LIp (K : PySem.W.Frag) (fa : Org) (op : DOp) : TIp := LO K fa op
theorem s_aug {i : Nat} {x : Str} {op : Operator} {o : DOp} {pos' : Pos} (hN : X.N.Nodup) (hi : X.N[i]? = some x) (hx : Loc X.env.scope x) (he : PE X e (LE X.K fa C te)) (ho : PIp X op (LIp X.K fa o)) (hf : X.fn x = true ∨ X.env.scope.names.lookup x = some .local) :
    PS X (.AugAssign (.Name x pos') op e pos) (LS X.K fa C (sAug i te o)) :=
  (ps_aug hN hi hx he ho hf).imp fun D σ H ⟨ρ, M, α, E, er, sr, h, en⟩ => by
    have h : got ρ[i]? fun x => te C ρ M fun y M1 => o x y M1 fun z M2 => E.nx (ρ.set i (some z)) M2 := h
    cases q : ρ[i]? with
    | none => rw [q] at h; exact h.elim
    | some od =>
      cases od with
      | none => rw [q] at h; exact h.elim
      | some d =>
        rw [q] at h
        obtain ⟨v, e1, r⟩ := er.2 i d q
        refine ⟨v, e1, ρ, M, α, _, er, sr, h, fun y dy H1 α1 M1 e1 s1 r1 p1 => ⟨M1, α1, d, dy, _, s1, r.mono e1, r1, p1, fun z dz H2 α2 M2 e2 s2 r2 p2 => ?_⟩⟩
        exact en.nx _ _ H2 α2 M2 (e1.trans e2) ((er.mono (e1.trans e2)).set r2) s2 p2
theorem s_par {i j : Nat} {x y : Str} {px py pt : Pos} {kt k2 pt2} (hc : X.calm = true) (hN : X.N.Nodup) (hi : X.N[i]? = some x) (hj : X.N[j]? = some y) (hij : i ≠ j)
    (hx : X.env.scope.names.lookup x = some .local) (hy : X.env.scope.names.lookup y = some .local) (ha : PA X [a, b] (LA X.K fa C da))
    (hw : swappedStores [.Tuple [.Name x px, .Name y py] kt pt] (.Tuple [a, b] k2 pt2) X.env = pure (some [x, y]))
    (hs : swapsWithSole [.Tuple [.Name x px, .Name y py] kt pt] (.Tuple [a, b] k2 pt2) pos.line X.env = pure false) :
    PS X (.Assign [.Tuple [.Name x px, .Name y py] kt pt] (.Tuple [a, b] k2 pt2) pos) (LS X.K fa C (sPar i j da)) :=
  (ps_par hc hN hi hj hij hx hy ha hw hs).imp fun D σ H ⟨ρ, M, α, E, er, sr, h, en⟩ => ⟨ρ, M, α, _, er, sr, h, fun vs ds H1 α1 M1 e1 s1 r1 p1 => by
    rcases r1 with _ | ⟨ra, _ | ⟨rb, _ | _⟩⟩
    · exact p1.elim
    · exact p1.elim
    · exact ⟨_, _, rfl, en.nx _ _ H1 α1 M1 e1 (((er.mono e1).set ra).set rb) s1 p1⟩
    · exact p1.elim⟩

/-! ### while -/
theorem s_while (hp : PassesOwn (model X.prog X.w) X.A X.env X.xe) (hc : PT X c (LT X.K fa C uc)) (hb : PSs X p (LS X.K fa C t)) : PS X (.While c p [] pos) (LS X.K fa C (sWhile uc t)) :=
  (ps_while hp hc hb).imp fun D σ H ⟨ρ, M, α, E, er, sr, ⟨n, h⟩, en⟩ => by
    refine ⟨fun m σ1 H1 => ∃ ρ1 M1 α1, Ext X.K H H1 α α1 ∧ EnvR X.K fa α1 H1 σ1 ρ1 ∧ StR X.K fa α1 H1 M1 ∧ wloop (uc C) (t C) E m ρ1 M1, ⟨n, ρ, M, α, Ext.refl, er, sr, h⟩, ?_⟩
    rintro m σ1 H1 ⟨ρ1, M1, α1, e1, er1, sr1, h1⟩
    cases m with
    | zero => exact h1.elim
    | succ m =>
      refine ⟨ρ1, M1, α1, _, er1, sr1, h1, fun k H2 α2 M2 e2 s2 p2 => ?_⟩
      cases k with
      | false => exact en.nx σ1 ρ1 H2 α2 M2 (e1.trans e2) (er1.mono e2) s2 p2
      | true =>
        refine ⟨fun σ' H' => ∃ ρ1 M1 α1, Ext X.K H H' α α1 ∧ EnvR X.K fa α1 H' σ' ρ1 ∧ StR X.K fa α1 H' M1 ∧ wloop (uc C) (t C) E m ρ1 M1, fun σ' H' z => ⟨m, Nat.lt_succ_self m, z⟩, ?_⟩
        refine ⟨ρ1, M2, α2, _, er1.mono e2, s2, p2, ⟨fun σ' ρ' H' α' M' e' er' sr' w => ⟨ρ', M', α', (e1.trans e2).trans e', er', sr', w⟩, en.rt.ext (e1.trans e2), fun σ' ρ' H' α' M' e' er' sr' w => en.nx σ' ρ' H' α' M' ((e1.trans e2).trans e') er' sr' w, fun σ' ρ' H' α' M' e' er' sr' w => ⟨ρ', M', α', (e1.trans e2).trans e', er', sr', w⟩⟩⟩
end

/-! ### what is walked -/
/-- from here on J yields the items xs, as long as grd holds -/
structure ItOk (K : PySem.W.Frag) (fa : Org) (J : It) (α : List Addr) (H : Hp) (xs : List D) (grd : Mem → Prop) : Prop where
  len : xs.length ≤ sizeLine
  go : ∀ (H' : Hp) (α' : List Addr) (M' : Mem), Ext K H H' α α' → StR K fa α' H' M' → grd M' → ∀ i : Nat, (i = xs.length → J.stop i H') ∧ (i < xs.length → J.go i H') ∧
    ∀ (x : D) (v : V) (H2 : Hp), xs[i]? = some x → J.yld i H' v H2 → Ext K H' H2 α' α' ∧ StR K fa α' H2 M' ∧ Rp K fa α' H2 v x
def LI (K : PySem.W.Frag) (fa : Org) (C : Ctx) (t : DI) : TI := fun σ H R => ∃ (ρ : Env) (M : Mem) (α : List Addr) (P : List D → (Mem → Prop) → Mem → Prop), EnvR K fa α H σ ρ ∧ StR K fa α H M ∧ t C ρ M P ∧
  ∀ (J : It) (H' : Hp) (α' : List Addr) (M' : Mem) (xs : List D) (grd : Mem → Prop), Ext K H H' α α' → StR K fa α' H' M' → ItOk K fa J α' H' xs grd → P xs grd M' → R J H'
section
variable {K : PySem.W.Frag} {fa : Org} {α : List Addr} {H : Hp} {M : Mem}
end
section
variable {X : Cx} {fa : Org} {C : Ctx} {tg e : Expr} {es : List Expr} {pos : Pos} {te : DE} {da : DA}
theorem i_seq (he : PE X e (LE X.K fa C te)) : PI X tg e (LI X.K fa C (iSeq te)) :=
  (pi_sq he).imp fun σ H R ⟨ρ, M, α, P, er, sr, h, k⟩ => by
    refine ⟨ρ, M, α, _, er, sr, h, fun v d H1 α1 M1 e1 s1 r1 p1 => ?_⟩
    cases r1 with
    | @tup a vs ds s l r =>
      refine ⟨a, rfl, .inr ⟨⟨vs, .inl (.inl s)⟩, k _ H1 α1 M1 ds _ e1 s1 ?_ p1⟩⟩
      refine ⟨by rw [← r.length]; exact l, fun H' α' M' e sr _ i => ⟨fun hi => ⟨vs, .inl (.inl (e.tup _ _ s)), by rw [r.length]; omega⟩, fun hi => ?_, fun x v H2 hx hy => ?_⟩⟩
      · obtain ⟨v, hv, _⟩ := r.get (List.getElem?_eq_getElem hi)
        exact ⟨vs, v, .inl (.inl (e.tup _ _ s)), hv⟩
      · obtain ⟨e2, hy⟩ := hy
        subst e2
        obtain ⟨w, hw, rw'⟩ := r.get hx
        have : v = w := Option.some.inj ((hy vs (.inl (.inl (e.tup _ _ s)))).symm.trans hw)
        subst this
        exact ⟨Ext.refl, sr, rw'.mono e⟩
    | @kup a vs ds s l r =>
      refine ⟨a, rfl, .inr ⟨⟨vs, s H1⟩, k _ H1 α1 M1 ds _ e1 s1 ?_ p1⟩⟩
      refine ⟨by rw [← r.length]; exact l, fun H' α' M' e sr _ i => ⟨fun hi => ⟨vs, s H', by rw [r.length]; omega⟩, fun hi => ?_, fun x v H2 hx hy => ?_⟩⟩
      · obtain ⟨v, hv, _⟩ := r.get (List.getElem?_eq_getElem hi)
        exact ⟨vs, v, s H', hv⟩
      · obtain ⟨e2, hy⟩ := hy
        subst e2
        obtain ⟨w, hw, rw'⟩ := r.get hx
        have : v = w := Option.some.inj ((hy vs (s H2)).symm.trans hw)
        subst this
        exact ⟨Ext.refl, sr, rw'.mono e⟩
    | @rol a vs ds s l r =>
      have sq : ∀ H' α', Ext X.K H1 H' α1 α' → SqL X.K H' a vs := fun H' α' e => s.elim (fun ⟨o, z⟩ => .inl (.inr ⟨o, e.frz _ _ _ z⟩)) fun z => z H'
      refine ⟨a, rfl, .inl ⟨⟨vs, sq H1 α1 Ext.refl⟩, k _ H1 α1 M1 ds _ e1 s1 ?_ p1⟩⟩
      refine ⟨by rw [← r.length]; exact l, fun H' α' M' e sr _ i => ⟨fun hi => ⟨vs, sq _ _ e, by rw [r.length]; omega⟩, fun hi => ?_, fun x v H2 hx hy => ?_⟩⟩
      · obtain ⟨v, hv, _⟩ := r.get (List.getElem?_eq_getElem hi)
        exact ⟨vs, v, sq _ _ e, hv⟩
      · obtain ⟨e2, hy⟩ := hy
        subst e2
        obtain ⟨w, hw, rw'⟩ := r.get hx
        have : v = w := Option.some.inj ((hy vs (sq _ _ e)).symm.trans hw)
        subst this
        exact ⟨Ext.refl, sr, rw'.mono e⟩
    | @ref n a ea =>
      have p1 : (match seqOf M1 (.ref n) with
        | some xs => P xs (grdOf (.ref n) xs) M1
        | none => False) := p1
      cases q : M1[n]? with
      | none => simp only [seqOf, q] at p1
      | some c =>
        cases c with
        | dK _ => simp only [seqOf, q] at p1
        | dT _ => simp only [seqOf, q] at p1
        | lst ds =>
          simp only [seqOf, q] at p1
          obtain ⟨vs, hv, l, r⟩ := s1.cell n _ a q ea
          refine ⟨a, rfl, .inl ⟨⟨vs, .inl (.inl hv)⟩, k _ H1 α1 M1 ds _ e1 s1 ?_ p1⟩⟩
          refine ⟨by rw [← r.length]; exact l, fun H' α' M' e sr hg i => ?_⟩
          obtain ⟨ws, hw, _, r2⟩ := sr.cell n _ a hg (e.at ea)
          refine ⟨fun hi => ⟨ws, .inl (.inl hw), by rw [r2.length]; omega⟩, fun hi => ?_, fun x v H2 hx hy => ?_⟩
          · obtain ⟨v, hv, _⟩ := r2.get (List.getElem?_eq_getElem hi)
            exact ⟨ws, v, .inl (.inl hw), hv⟩
          · obtain ⟨e2, hy⟩ := hy
            subst e2
            obtain ⟨w, hw', rw'⟩ := r2.get hx
            have : v = w := Option.some.inj ((hy ws (.inl (.inl hw))).symm.trans hw')
            subst this
            exact ⟨Ext.refl, sr, rw'⟩
    | _ => exact (show False from p1).elim
theorem rngI_get {lo : Int} {n i : Nat} {x : D} (h : (rngI lo n)[i]? = some x) : x = .int (lo + i) := by
  unfold rngI at h
  rw [List.getElem?_map] at h
  obtain ⟨k, h1, h2⟩ := Option.map_eq_some_iff.mp h
  have := (List.getElem?_eq_some_iff.mp h1)
  obtain ⟨hl, e⟩ := this
  rw [List.getElem_range] at e
  subst e
  exact h2.symm
theorem rngI_len {lo : Int} {n : Nat} : (rngI lo n).length = n := by unfold rngI; simp
theorem itok_r {K : PySem.W.Frag} {α : List Addr} {H : Hp} {lo : Int} {n : Nat} (h : n ≤ sizeLine) : ItOk K fa (Itr lo n) α H (rngI lo n) fun _ => True := by
  refine ⟨by rw [rngI_len]; exact h, fun H' α' M' e sr _ i => ⟨fun hi => ?_, fun hi => ?_, fun x v H2 hx hy => ?_⟩⟩
  · rw [rngI_len] at hi; exact Nat.le_of_eq hi.symm
  · rw [rngI_len] at hi; exact hi
  · obtain ⟨e2, e3⟩ := hy
    subst e2 e3
    rw [rngI_get hx]
    exact ⟨Ext.refl, sr, .int _⟩
theorem small62 {j : Int} (h : j.toNat ≤ sizeLine) : j < 2 ^ 62 := by
  have e : sizeLine = 16777216 := by decide
  omega
theorem i_rng1 {a : Expr} {p : Pos} {ta : DE} (hg : Gl X "range") (hm : X.mg "range" = none) (ha : PE X a (LE X.K fa C ta)) (hs : starEach [a] X.env = [(false, eval a X.env)]) : PI X tg (.Call (.Name "range" p) [a] [] pos) (LI X.K fa C (iRng1 ta)) :=
  (pi_range1 hg hm (pa_cons ha pa_nil hs) hs).imp fun σ H R ⟨ρ, M, α, P, er, sr, h, k⟩ => ⟨ρ, M, α, _, er, sr, h, fun v d H1 α1 M1 e1 s1 r1 p1 => by
    cases r1 <;> first | exact (show False from p1).elim | skip
    obtain ⟨⟨z1, z2⟩, p2⟩ := p1
    exact ⟨_, rfl, z1, small62 z2, k _ H1 α1 M1 _ _ e1 s1 (itok_r z2) p2⟩⟩
theorem i_rng2 {a b : Expr} {p : Pos} {ta tb : DE} (hg : Gl X "range") (hm : X.mg "range" = none) (ha : PE X a (LE X.K fa C ta)) (hb : PE X b (LE X.K fa C tb)) (hs : starEach [a, b] X.env = [(false, eval a X.env), (false, eval b X.env)]) (hs2 : starEach [b] X.env = [(false, eval b X.env)]) : PI X tg (.Call (.Name "range" p) [a, b] [] pos) (LI X.K fa C (iRng2 ta tb)) :=
  (pi_range2 hg hm (pa_cons ha (pa_cons hb pa_nil hs2) (by rw [hs, hs2])) hs hs2).imp fun σ H R ⟨ρ, M, α, P, er, sr, h, k⟩ => ⟨ρ, M, α, _, er, sr, h, fun v d H1 α1 M1 e1 s1 r1 p1 => ⟨ρ, M1, α1, _, er.mono e1, s1, p1, fun w e H2 α2 M2 e2 s2 r2 p2 => by
    cases r1 <;> cases r2 <;> first | exact (show False from p2).elim | skip
    obtain ⟨⟨z1, z2⟩, p3⟩ := p2
    exact ⟨_, _, rfl, z2, k _ H2 α2 M2 _ _ (e1.trans e2) s2 (itok_r z1) p3⟩⟩⟩
theorem rngC_get {lo c : Int} {n i : Nat} {x : D} (h : (rngC lo c n)[i]? = some x) : x = .int (lo + (i : Nat) * c) := by
  unfold rngC at h
  rw [List.getElem?_map] at h
  obtain ⟨k, h1, h2⟩ := Option.map_eq_some_iff.mp h
  obtain ⟨hl, e⟩ := (List.getElem?_eq_some_iff.mp h1)
  rw [List.getElem_range] at e
  subst e
  exact h2.symm
theorem rngC_len {lo c : Int} {n : Nat} : (rngC lo c n).length = n := by unfold rngC; simp
theorem itok_c {K : PySem.W.Frag} {α : List Addr} {H : Hp} {lo c : Int} {n : Nat} (h : n ≤ sizeLine) : ItOk K fa (Itc lo c n) α H (rngC lo c n) fun _ => True := by
  refine ⟨by rw [rngC_len]; exact h, fun H' α' M' e sr _ i => ⟨fun hi => ?_, fun hi => ?_, fun x v H2 hx hy => ?_⟩⟩
  · rw [rngC_len] at hi; exact Nat.le_of_eq hi.symm
  · rw [rngC_len] at hi; exact hi
  · obtain ⟨e2, e3⟩ := hy
    subst e2 e3
    rw [rngC_get hx]
    exact ⟨Ext.refl, sr, .int _⟩
theorem i_rng3 {a b c : Expr} {p : Pos} {ta tb tc : DE} (hg : Gl X "range") (hm : X.mg "range" = none) (ha : PE X a (LE X.K fa C ta)) (hb : PE X b (LE X.K fa C tb)) (hc : PE X c (LE X.K fa C tc))
    (hs : starEach [a, b, c] X.env = (false, eval a X.env) :: starEach [b, c] X.env) (hs2 : starEach [b, c] X.env = (false, eval b X.env) :: starEach [c] X.env) (hs3 : starEach [c] X.env = (false, eval c X.env) :: starEach [] X.env) (hpl : (backTo pos (starEach [b, c] X.env)).any (·.1) = false) : PI X tg (.Call (.Name "range" p) [a, b, c] [] pos) (LI X.K fa C (iRng3 ta tb tc)) :=
  (pi_range3 hg hm (pa_cons ha (pa_cons hb (pa_cons hc pa_nil hs3) hs2) hs) hs hpl).imp fun σ H R ⟨ρ, M, α, P, er, sr, h, k⟩ => ⟨ρ, M, α, _, er, sr, h, fun v d H1 α1 M1 e1 s1 r1 p1 => ⟨ρ, M1, α1, _, er.mono e1, s1, p1, fun w e H2 α2 M2 e2 s2 r2 p2 =>
    ⟨ρ, M2, α2, _, er.mono (e1.trans e2), s2, p2, fun u f H3 α3 M3 e3 s3 r3 p3 => by
    cases d <;> cases e <;> cases f <;> first | exact (show False from p3).elim | skip
    cases r1; cases r2; cases r3
    obtain ⟨n, ⟨hn, hc⟩, p4⟩ := (show ∃ n : Nat, (n ≤ sizeLine ∧ RgC _ _ _ n) ∧ P _ _ M3 from p3)
    exact ⟨_, _, _, n, rfl, hc, k _ H3 α3 M3 _ _ ((e1.trans e2).trans e3) s3 (itok_c hn) p4⟩⟩⟩⟩

/-! ### for -/
theorem s_for {it : Expr} {p : List Stmt} {ws : List Nat} {w : DI} {g : DG} {t : DS} (hp : PassesOwn (model X.prog X.w) X.A X.env X.xe) (hc : X.calm = true) (hi : PI X tg it (LI X.K fa C w)) (hg : PG X tg (LG X.K fa C ws g)) (hb : PSs X p (LS X.K fa C t))
    (hs : ∀ x, foldedSetIterable it X.env x = pure x) : PS X (.For tg it p [] pos) (LS X.K fa C (sFor w g t)) :=
  (ps_for hp hc hi hg hb hs).imp fun D σ H ⟨ρ, M, α, E, er, sr, h, en⟩ => ⟨ρ, M, α, _, er, sr, h, fun J H1 α1 M1 xs grd e1 s1 ok p1 => by
    refine ⟨fun i m σ2 H2 => ∃ ρ2 M2 α2, i + m = xs.length ∧ Ext X.K H1 H2 α1 α2 ∧ EnvR X.K fa α2 H2 σ2 ρ2 ∧ StR X.K fa α2 H2 M2 ∧ floop (g C) (t C) E grd (xs.drop i) ρ2 M2, ⟨xs.length, ρ, M1, α1, by omega, Ext.refl, er.mono e1, s1, p1⟩, ?_⟩
    rintro i m σ2 H2 ⟨ρ2, M2, α2, em, e2, er2, s2, p2⟩
    cases m with
    | zero =>
      have hd : xs.drop i = [] := List.drop_eq_nil_of_le (by omega)
      rw [hd] at p2
      exact .inl ⟨((ok.go H2 α2 M2 e2 s2 p2.1 i).1 (by omega)), en.nx σ2 ρ2 H2 α2 M2 (e1.trans e2) er2 s2 p2.2⟩
    | succ m =>
      have hi : i < xs.length := by omega
      have hd : xs.drop i = xs[i] :: xs.drop (i + 1) := List.drop_eq_getElem_cons hi
      rw [hd] at p2
      obtain ⟨hg2, p2⟩ := p2
      obtain ⟨_, go, yl⟩ := ok.go H2 α2 M2 e2 s2 hg2 i
      refine .inr ⟨go hi, fun σ' H' => ∃ ρ2 M2 α2, Ext X.K H1 H' α1 α2 ∧ EnvR X.K fa α2 H' σ' ρ2 ∧ StR X.K fa α2 H' M2 ∧ floop (g C) (t C) E grd (xs.drop (i + 1)) ρ2 M2,
        fun σ' H' ⟨ρ3, M3, α3, a1, a2, a3, a4⟩ => ⟨m, Nat.lt_succ_self m, ρ3, M3, α3, by omega, a1, a2, a3, a4⟩, fun v H3 hy => ?_⟩
      obtain ⟨e3, s3, r3⟩ := yl _ v H3 (List.getElem?_eq_getElem hi) hy
      refine ⟨ρ2, M2, α2, xs[i], _, er2.mono e3, s3, r3, p2, fun σ4 ρ4 H4 α4 M4 e4 er4 s4 _ p4 => ?_⟩
      have ee : Ext X.K H1 H4 α1 α4 := (e2.trans e3).trans e4
      exact ⟨ρ4, M4, α4, _, er4, s4, p4, ⟨fun σ' ρ' H' α' M' e' er' sr' w => ⟨ρ', M', α', ee.trans e', er', sr', w⟩, en.rt.ext (e1.trans ee), fun σ' ρ' H' α' M' e' er' sr' w => en.nx σ' ρ' H' α' M' ((e1.trans ee).trans e') er' sr' w,
        fun σ' ρ' H' α' M' e' er' sr' w => ⟨ρ', M', α', ee.trans e', er', sr', w⟩⟩⟩⟩
end
end DL
/-! The data layer, part 5: lists made on the way, comprehensions, built-ins, methods. -/
namespace DL
open PySem PySem.Spec PyProof.Rows L2

/-! ### a new list that stands apart -/
abbrev DLs := Ctx → Env → Mem → (List D → Mem → Prop) → Prop
def LL (K : PySem.W.Frag) (fa : Org) (C : Ctx) (t : DLs) : TE := fun σ H Q => ∃ (ρ : Env) (M : Mem) (α : List Addr) (P : List D → Mem → Prop), EnvR K fa α H σ ρ ∧ StR K fa α H M ∧ t C ρ M P ∧
  ∀ (a : Addr) (vs : List V) (ds : List D) (H' : Hp) (α' : List Addr) (M' : Mem), Ext K H H' α α' → StR K fa α' H' M' → H' a = some (.lst vs) → H a = none → a ∉ α' → vs.length ≤ sizeLine → Rps K fa α' H' vs ds → P ds M' → Q (.ref a) H'
def eNew (l : DLs) : DE := fun C ρ M P => l C ρ M fun ds M1 => P (.ref M1.length) (M1 ++ [.lst ds])
def eTupL (l : DLs) : DE := fun C ρ M P => l C ρ M fun ds M1 => P (.tup ds) M1
def eqL (neg : Bool) (l r : DLs) : DE := fun C ρ M P => l C ρ M fun ds M1 => r C ρ M1 fun es M2 => (pures? ds = true ∧ pures? es = true ∧ SeqAt.shaped (.list (toPys ds)) = true ∧ SeqAt.shaped (.list (toPys es)) = true) ∧
  P (.bl (if neg = true then !PyData.eqvAll (toPys ds) (toPys es) else PyData.eqvAll (toPys ds) (toPys es))) M2
/-- what looks at a list's items alone -/
abbrev DC := List D → (D → Prop) → Prop
def eFL (c : DC) (l : DLs) : DE := fun C ρ M P => l C ρ M fun ds M1 => c ds fun r => P r M1
def fC (c : DC) (tup : Bool) : DF := fun ds M P => match ds with
  | [d] => (match seqOf M d with
    | some xs => (tup = true ∨ isList M d = true) ∧ c xs fun r => P r M
    | none => False)
  | _ => False
def LC (K : PySem.W.Frag) (fa : Org) (c : DC) : List V → Hp → VK → Prop := fun vs H Q => ∃ (a : Addr) (ws : List V) (α : List Addr) (ds : List D) (k : D → Prop), vs = [.ref a] ∧ SqL K H a ws ∧ Rps K fa α H ws ds ∧ c ds k ∧ ∀ v d, Rp K fa α H v d → k d → Q v H
def LCt (K : PySem.W.Frag) (fa : Org) (c : DC) : List V → Hp → VK → Prop := fun vs H Q => ∃ (a : Addr) (ws : List V) (α : List Addr) (ds : List D) (k : D → Prop), vs = [.ref a] ∧ SqT K H a ws ∧ Rps K fa α H ws ds ∧ c ds k ∧ ∀ v d, Rp K fa α H v d → k d → Q v H

section
variable {X : Cx} {fa : Org} {C : Ctx} {a b c e : Expr} {es rest : List Expr} {pos : Pos} {l r : DLs} {da : DA} {ta tb : DE}
theorem d_new (h : PE X e (LL X.K fa C l)) : PE X e (LE X.K fa C (eNew l)) := h.imp fun σ H Q ⟨ρ, M, α, P, er, sr, h, an⟩ =>
  ⟨ρ, M, α, _, er, sr, h, fun a vs ds H' α' M' e s ha hn na l r p => an _ _ _ (α' ++ [a]) _ ⟨⟨e.tup, e.frz, by obtain ⟨β, hβ⟩ := e.pre; exact ⟨β ++ [a], by rw [hβ, List.append_assoc]⟩⟩, e.keep, e.there, fun b hb => by
    rcases List.mem_append.mp hb with z | z
    · exact e.fresh b z
    · have : b = a := by simpa using z
      subst this
      exact .inr hn⟩ (s.adopt ha na l r (sr.h0 hn)) (.ref (by rw [← s.len, List.getElem?_concat_length])) p⟩
theorem l_disp (h : PA X es (LA X.K fa C da)) (hl : es.length ≤ 1000) : PE X (.List es pos) (LE X.K fa C (eLst da)) := d_lst h
theorem d_tupL {p : Pos} (hg : Gl X "tuple") (hm : X.mg "tuple" = none) (h : PE X e (LL X.K fa C l)) (he : starEach [e] X.env = (false, eval e X.env) :: starEach [] X.env) (hpl : (backTo pos (starEach [] X.env)).any (·.1) = false) :
    PE X (.Call (.Name "tuple" p) [e] [] pos) (LE X.K fa C (eTupL l)) :=
  (pe_callTy call_tuple_of hg hm (by decide +kernel) (pa_cons h pa_nil he) (by decide) (by decide) he hpl).imp fun σ H Q ⟨ρ, M, α, P, er, sr, h, an⟩ =>
    ⟨ρ, M, α, _, er, sr, h, fun a vs ds H' α' M' e s ha hn na l r p => ⟨a, vs, rfl, .inl ⟨.inl (.inl ha), fun q hq => (an.ext e).tup s r l hq p⟩⟩⟩
theorem d_callBL {x : Str} {p : Pos} {id : String} {cc : DC} (hc : CallR X (.builtin id) (LC X.K fa cc)) (hg : Gl X x) (hm : X.mg x = none) (hv : bootBuiltins x = some (.builtin id)) (h : PE X e (LL X.K fa C l)) (hn : x ≠ "__name__") (hdb : (x == ("__debug__" : Str)) = false)
    (he : starEach [e] X.env = (false, eval e X.env) :: starEach [] X.env) (hpl : (backTo pos (starEach [] X.env)).any (·.1) = false) : PE X (.Call (.Name x p) [e] [] pos) (LE X.K fa C (eFL cc l)) :=
  (pe_callB hc hg hm hv (pa_cons h pa_nil he) hn hdb he hpl).imp fun σ H Q ⟨ρ, M, α, P, er, sr, h, an⟩ =>
    ⟨ρ, M, α, _, er, sr, h, fun a vs ds H' α' M' e s ha hn na l r p => ⟨a, vs, α', ds, _, rfl, .inl (.inl ha), r, p, fun v d rv pd => an v d H' α' M' e s rv pd⟩⟩
theorem fc_l {f : Value} {cc : DC} (hc : CallR X f (LC X.K fa cc)) : CallR X f (LF X.K fa (fC cc false)) := hc.imp fun vs H Q ⟨M, α, ds, P, sr, rs, h, an⟩ => by
  unfold fC at h
  split at h
  · split at h
    · rename_i xs hs
      rcases rs with _ | ⟨r, _ | _⟩
      obtain ⟨h1, h⟩ := h
      have h2 := h1.elim (fun z => by cases z) id
      cases r with
      | @rol a ws ds s l r => cases hs; exact ⟨a, ws, α, _, _, rfl, s.elim (fun z => .inl (.inr z)) fun z => z H, r, h, fun v d rv pd => an.here sr rv pd⟩
      | @ref n a ea =>
        obtain ⟨b, ws, e, hq, r⟩ := seq_v sr (.ref ea) hs
        cases e
        have hs : (match M[n]? with
          | some (.lst xs) => some xs
          | _ => none) = some xs := hs
        cases q : M[n]? with
        | none => rw [q] at hs; cases hs
        | some c =>
          rw [q] at hs
          cases c with
          | lst zs =>
            cases hs
            obtain ⟨vs, hv, _, r⟩ := sr.cell n _ a q ea
            exact ⟨a, vs, α, _, _, rfl, .inl (.inl hv), r, h, fun v d rv pd => an.here sr rv pd⟩
          | dK _ => cases hs
          | dT _ => cases hs
      | _ => cases h2
    · exact h.elim
  · exact h.elim
theorem fc_t {f : Value} {cc : DC} (hc : CallR X f (LC X.K fa cc)) (ht : CallR X f (LCt X.K fa cc)) : CallR X f (LF X.K fa (fC cc true)) := (hc.or ht).imp fun vs H Q ⟨M, α, ds, P, sr, rs, h, an⟩ => by
  unfold fC at h
  split at h
  · split at h
    · rename_i xs hs
      rcases rs with _ | ⟨r, _ | _⟩
      obtain ⟨h1, h⟩ := h
      obtain ⟨a, ws, e, hq, rs⟩ := seq_v sr r hs
      subst e
      rcases hq with hq | hq
      · exact .inl ⟨a, ws, α, _, _, rfl, hq, rs, h, fun v d rv pd => an.here sr rv pd⟩
      · exact .inr ⟨a, ws, α, _, _, rfl, hq, rs, h, fun v d rv pd => an.here sr rv pd⟩
    · exact h.elim
  · exact h.elim

/-! ### consumers -/
def intsOf : List D → Option (List Int)
  | [] => some []
  | .int i :: r => (intsOf r).map (i :: ·)
  | _ :: _ => none
def boolsOf : List D → Option (List Bool)
  | [] => some []
  | .bl i :: r => (boolsOf r).map (i :: ·)
  | _ :: _ => none
theorem ints_v {K : PySem.W.Frag} {α : List Addr} {H : Hp} : ∀ {ds : List D} {vs : List V} {ns : List Int}, Rps K fa α H vs ds → intsOf ds = some ns → vs = ns.map V.int
  | _, _, _, .nil, h => by cases h; rfl
  | _, _, ns, .cons (d := d) r t, h => by
    cases d <;> first | cases h | skip
    obtain ⟨l, h1, h2⟩ := Option.map_eq_some_iff.mp h
    subst h2
    cases r
    rw [ints_v t h1]
    rfl
theorem bools_v {K : PySem.W.Frag} {α : List Addr} {H : Hp} : ∀ {ds : List D} {vs : List V} {ns : List Bool}, Rps K fa α H vs ds → boolsOf ds = some ns → vs = ns.map V.bl
  | _, _, _, .nil, h => by cases h; rfl
  | _, _, ns, .cons (d := d) r t, h => by
    cases d <;> first | cases h | skip
    obtain ⟨l, h1, h2⟩ := Option.map_eq_some_iff.mp h
    subst h2
    cases r
    rw [bools_v t h1]
    rfl
def cSum : DC := fun ds k => match intsOf ds with
  | some ns => k (.int ns.sum)
  | none => False
def cAny : DC := fun ds k => match boolsOf ds with
  | some bs => k (.bl (bs.any id))
  | none => False
def cAll : DC := fun ds k => match boolsOf ds with
  | some bs => k (.bl (bs.all id))
  | none => False
def cLen : DC := fun ds k => k (.int ds.length)
def maxL : List Int → Int
  | [] => 0
  | [x] => x
  | x :: r => max x (maxL r)
def minL : List Int → Int
  | [] => 0
  | [x] => x
  | x :: r => min x (minL r)
theorem maxL_mem : ∀ {l : List Int}, 0 < l.length → maxL l ∈ l ∧ ∀ y ∈ l, y ≤ maxL l
  | [x], _ => ⟨List.mem_singleton.mpr rfl, fun y hy => by rw [List.mem_singleton.mp hy]; exact Int.le_refl _⟩
  | x :: z :: r, _ => by
    obtain ⟨h1, h2⟩ := maxL_mem (l := z :: r) (by simp)
    show max x (maxL (z :: r)) ∈ _ ∧ ∀ y ∈ _, y ≤ max x (maxL (z :: r))
    refine ⟨?_, fun y hy => ?_⟩
    · by_cases h : x ≤ maxL (z :: r)
      · rw [Int.max_eq_right h]; exact List.mem_cons_of_mem _ h1
      · rw [Int.max_eq_left (by omega)]; exact List.mem_cons_self
    · rcases List.mem_cons.mp hy with e | hy
      · rw [e]; exact Int.le_max_left _ _
      · exact Int.le_trans (h2 y hy) (Int.le_max_right _ _)
theorem minL_mem : ∀ {l : List Int}, 0 < l.length → minL l ∈ l ∧ ∀ y ∈ l, minL l ≤ y
  | [x], _ => ⟨List.mem_singleton.mpr rfl, fun y hy => by rw [List.mem_singleton.mp hy]; exact Int.le_refl _⟩
  | x :: z :: r, _ => by
    obtain ⟨h1, h2⟩ := minL_mem (l := z :: r) (by simp)
    show min x (minL (z :: r)) ∈ _ ∧ ∀ y ∈ _, min x (minL (z :: r)) ≤ y
    refine ⟨?_, fun y hy => ?_⟩
    · by_cases h : x ≤ minL (z :: r)
      · rw [Int.min_eq_left h]; exact List.mem_cons_self
      · rw [Int.min_eq_right (by omega)]; exact List.mem_cons_of_mem _ h1
    · rcases List.mem_cons.mp hy with e | hy
      · rw [e]; exact Int.min_le_left _ _
      · exact Int.le_trans (Int.min_le_right _ _) (h2 y hy)
def cMax : DC := fun ds k => match intsOf ds with
  | some ns => 0 < ns.length ∧ k (.int (maxL ns))
  | none => False
def cMin : DC := fun ds k => match intsOf ds with
  | some ns => 0 < ns.length ∧ k (.int (minL ns))
  | none => False
theorem c_sum (hc : X.calm = true) : CallR X (.builtin "sum") (LC X.K fa cSum) := (cr_sum hc).imp fun vs H Q ⟨a, ws, α, ds, k, e, hq, r, h, an⟩ => by
  unfold cSum at h
  split at h
  · rename_i ns hn
    have := ints_v r hn
    subst this
    exact ⟨a, ns, e, hq, an _ _ (.int _) h⟩
  · exact h.elim
theorem c_any (hc : X.calm = true) : CallR X (.builtin "any") (LC X.K fa cAny) := (cr_any hc).imp fun vs H Q ⟨a, ws, α, ds, k, e, hq, r, h, an⟩ => by
  unfold cAny at h
  split at h
  · rename_i ns hn
    have := bools_v r hn
    subst this
    exact ⟨a, ns, e, hq, an _ _ (.bl _) h⟩
  · exact h.elim
theorem c_all (hc : X.calm = true) : CallR X (.builtin "all") (LC X.K fa cAll) := (cr_all hc).imp fun vs H Q ⟨a, ws, α, ds, k, e, hq, r, h, an⟩ => by
  unfold cAll at h
  split at h
  · rename_i ns hn
    have := bools_v r hn
    subst this
    exact ⟨a, ns, e, hq, an _ _ (.bl _) h⟩
  · exact h.elim
theorem c_max (hc : X.calm = true) : CallR X (.builtin "max") (LC X.K fa cMax) := (cr_max hc).imp fun vs H Q ⟨a, ws, α, ds, k, e, hq, r, h, an⟩ => by
  unfold cMax at h
  split at h
  · rename_i ns hn
    have := ints_v r hn
    subst this
    obtain ⟨m1, m2⟩ := maxL_mem h.1
    refine ⟨a, ns, e, hq, h.1, fun m hm hle => ?_⟩
    have : m = maxL ns := Int.le_antisymm (m2 m hm) (hle _ m1)
    rw [this]
    exact an _ _ (.int _) h.2
  · exact h.elim
theorem c_min (hc : X.calm = true) : CallR X (.builtin "min") (LC X.K fa cMin) := (cr_min hc).imp fun vs H Q ⟨a, ws, α, ds, k, e, hq, r, h, an⟩ => by
  unfold cMin at h
  split at h
  · rename_i ns hn
    have := ints_v r hn
    subst this
    obtain ⟨m1, m2⟩ := minL_mem h.1
    refine ⟨a, ns, e, hq, h.1, fun m hm hle => ?_⟩
    have : m = minL ns := Int.le_antisymm (hle _ m1) (m2 m hm)
    rw [this]
    exact an _ _ (.int _) h.2
  · exact h.elim
theorem c_len : CallR X (.builtin "len") (LC X.K fa cLen) := call_len_seq.imp fun vs H Q ⟨a, ws, α, ds, k, e, hq, r, h, an⟩ => ⟨a, ws, e, .inl hq, by rw [r.length]; exact an _ _ (.int _) h⟩
theorem c_lenT : CallR X (.builtin "len") (LCt X.K fa cLen) := call_len_seq.imp fun vs H Q ⟨a, ws, α, ds, k, e, hq, r, h, an⟩ => ⟨a, ws, e, .inr hq, by rw [r.length]; exact an _ _ (.int _) h⟩

/-! ### built-ins by values -/
def fLen : DF := fun ds M P => match ds with
  | [.str z] => z.length ≤ sizeLine ∧ P (.int z.length) M
  | [d] => (match seqOf M d with
    | some xs => P (.int xs.length) M
    | none => (match d with
      | .ref n => (match M[n]? with
        | some (.dK kvs) => P (.int kvs.length) M
        | _ => False)
      | _ => False))
  | _ => False
def fAbs : DF := fun ds M P => match ds with
  | [.int i] => P (.int (if i < 0 then -i else i)) M
  | _ => False
def fInt : DF := fun ds M P => match ds with
  | [.int i] => P (.int i) M
  | [.bl k] => P (.int (if k then 1 else 0)) M
  | _ => False
def fBool : DF := fun ds M P => match ds with
  | [.int i] => P (.bl (i != 0)) M
  | [.bl k] => P (.bl k) M
  | _ => False
def fMax2 : DF := fun ds M P => match ds with
  | [.int i, .int j] => P (.int (if j > i then j else i)) M
  | _ => False
def fMin2 : DF := fun ds M P => match ds with
  | [.int i, .int j] => P (.int (if j < i then j else i)) M
  | _ => False
def fGcd : DF := fun ds M P => match ds with
  | [.int i, .int j] => P (.int ((Nat.gcd i.natAbs j.natAbs : Nat) : Int)) M
  | _ => False
/-- tuple(x) of a list, of a tuple -/
def fTuple : DF := fun ds M P => match ds with
  | [.tup xs] => P (.tup xs) M
  | [.kup xs] => P (.kup xs) M
  | [d] => (match seqOf M d with
    | some xs => P (.tup xs) M
    | none => False)
  | _ => False
/-- list(x): a new cell -/
def fList : DF := fun ds M P => match ds with
  | [d] => (match seqOf M d with
    | some xs => P (.ref M.length) (M ++ [.lst xs])
    | none => False)
  | _ => False
theorem seq_len {K : PySem.W.Frag} {α : List Addr} {H : Hp} {M : Mem} {v : V} {d : D} {xs : List D} (st : StR K fa α H M) (r : Rp K fa α H v d) (h : seqOf M d = some xs) : xs.length ≤ sizeLine := by
  cases r with
  | tup s l r => cases h; rw [← r.length]; exact l
  | kup s l r => cases h; rw [← r.length]; exact l
  | rol s l r => cases h; rw [← r.length]; exact l
  | @ref n a ea =>
    have h : (match M[n]? with
      | some (.lst xs) => some xs
      | _ => none) = some xs := h
    cases q : M[n]? with
    | none => rw [q] at h; cases h
    | some c =>
      rw [q] at h
      cases c with
      | lst ys =>
        cases h
        obtain ⟨vs, hv, l, r⟩ := st.cell n _ a q ea
        rw [← r.length]; exact l
      | dK _ => cases h
      | dT _ => cases h
  | _ => cases h
theorem f_len : CallR X (.builtin "len") (LF X.K fa fLen) := (call_len_seq.or (call_len_str.or call_lenD)).imp fun vs H Q ⟨M, α, ds, P, sr, rs, h, an⟩ => by
  unfold fLen at h
  split at h
  · rcases rs with _ | ⟨r, _ | _⟩
    cases r
    exact .inr (.inl ⟨_, rfl, h.1, an.here sr (.int _) h.2⟩)
  · rcases rs with _ | ⟨r, _ | _⟩
    split at h
    · rename_i xs hs
      obtain ⟨a, ws, e, hq, rs⟩ := seq_v sr r hs
      subst e
      exact .inl ⟨a, ws, rfl, hq, by rw [rs.length]; exact an.here sr (.int _) h⟩
    · split at h
      · split at h
        · rename_i kvs hM
          cases r with
          | ref ea =>
            obtain ⟨ws, hw, p⟩ := sr.cell _ _ _ hM ea
            exact .inr (.inr ⟨_, ws, rfl, hw, by rw [Paired.length p]; exact an.here sr (.int _) h⟩)
        · exact h.elim
      · exact h.elim
  · exact h.elim
theorem f_abs : CallR X (.builtin "abs") (LF X.K fa fAbs) := call_abs.imp fun vs H Q ⟨M, α, ds, P, sr, rs, h, an⟩ => by
  unfold fAbs at h
  split at h
  · rcases rs with _ | ⟨r, _ | _⟩
    cases r
    exact ⟨_, rfl, an.here sr (.int _) h⟩
  · exact h.elim
theorem f_int : CallR X (.type "int") (LF X.K fa fInt) := call_int1.imp fun vs H Q ⟨M, α, ds, P, sr, rs, h, an⟩ => by
  unfold fInt at h
  split at h
  · rcases rs with _ | ⟨r, _ | _⟩
    cases r
    exact .inl ⟨_, rfl, an.here sr (.int _) h⟩
  · rcases rs with _ | ⟨r, _ | _⟩
    cases r
    exact .inr ⟨_, rfl, an.here sr (.int _) h⟩
  · exact h.elim
theorem f_bool : CallR X (.type "bool") (LF X.K fa fBool) := call_bool1.imp fun vs H Q ⟨M, α, ds, P, sr, rs, h, an⟩ => by
  unfold fBool at h
  split at h
  · rcases rs with _ | ⟨r, _ | _⟩
    cases r
    exact .inl ⟨_, rfl, an.here sr (.bl _) h⟩
  · rcases rs with _ | ⟨r, _ | _⟩
    cases r
    exact .inr ⟨_, rfl, an.here sr (.bl _) h⟩
  · exact h.elim
theorem f_max2 (hc : X.calm = true) : CallR X (.builtin "max") (LF X.K fa fMax2) := (call_max2 hc).imp fun vs H Q ⟨M, α, ds, P, sr, rs, h, an⟩ => by
  unfold fMax2 at h
  split at h
  · rcases rs with _ | ⟨r, _ | ⟨r2, _ | _⟩⟩
    cases r; cases r2
    exact ⟨_, _, rfl, an.here sr (.int _) h⟩
  · exact h.elim
theorem f_min2 (hc : X.calm = true) : CallR X (.builtin "min") (LF X.K fa fMin2) := (call_min2 hc).imp fun vs H Q ⟨M, α, ds, P, sr, rs, h, an⟩ => by
  unfold fMin2 at h
  split at h
  · rcases rs with _ | ⟨r, _ | ⟨r2, _ | _⟩⟩
    cases r; cases r2
    exact ⟨_, _, rfl, an.here sr (.int _) h⟩
  · exact h.elim
theorem f_gcd : CallR X (.builtin "math.gcd") (LF X.K fa fGcd) := cr_gcd.imp fun vs H Q ⟨M, α, ds, P, sr, rs, h, an⟩ => by
  unfold fGcd at h
  split at h
  · rcases rs with _ | ⟨r, _ | ⟨r2, _ | _⟩⟩
    cases r; cases r2
    exact ⟨_, _, rfl, an.here sr (.int _) h⟩
  · exact h.elim
theorem f_tuple : CallR X (.type "tuple") (LF X.K fa fTuple) := call_tuple_of.imp fun vs H Q ⟨M, α, ds, P, sr, rs, h, an⟩ => by
  unfold fTuple at h
  split at h
  · rcases rs with _ | ⟨r, _ | _⟩
    cases r with
    | @tup a ws _ s l r => exact ⟨a, ws, rfl, .inr ⟨.inl (.inl s), an.here sr (.tup s l r) h⟩⟩
  · rcases rs with _ | ⟨r, _ | _⟩
    cases r with
    | @kup a ws _ s l r => exact ⟨a, ws, rfl, .inr ⟨s H, an.here sr (.kup s l r) h⟩⟩
  · rename_i d h1 h2
    rcases rs with _ | ⟨r, _ | _⟩
    split at h
    · rename_i xs hs
      obtain ⟨a, ws, e, hq, rs⟩ := seq_v sr r hs
      subst e
      have hl := seq_len sr r hs
      rcases hq with hq | hq
      · exact ⟨a, ws, rfl, .inl ⟨hq, fun q hp => an.tup sr rs (by rw [rs.length]; exact hl) hp h⟩⟩
      · cases r with
        | @rol _ ws2 _ s l r =>
          cases hs
          have hq2 : SqL X.K H a ws2 := s.elim (fun z => .inl (.inr z)) fun z => z H
          exact ⟨a, ws2, rfl, .inl ⟨hq2, fun q hp => an.tup sr r l hp h⟩⟩
        | @ref n _ ea =>
          have hs : (match M[n]? with
            | some (.lst xs) => some xs
            | _ => none) = some xs := hs
          cases q : M[n]? with
          | none => rw [q] at hs; cases hs
          | some c =>
            rw [q] at hs
            cases c with
            | lst zs =>
              cases hs
              obtain ⟨us, hv, l, r⟩ := sr.cell n _ a q ea
              exact ⟨a, us, rfl, .inl ⟨.inl (.inl hv), fun q hp => an.tup sr r l hp h⟩⟩
            | dK _ => cases hs
            | dT _ => cases hs
        | tup s l r => exact (h1 _ rfl).elim
        | kup s l r => exact (h2 _ rfl).elim
        | _ => cases hs
    · exact h.elim
  · exact h.elim
theorem f_list : CallR X (.type "list") (LF X.K fa fList) := call_list_of.imp fun vs H Q ⟨M, α, ds, P, sr, rs, h, an⟩ => by
  unfold fList at h
  split at h
  · rcases rs with _ | ⟨r, _ | _⟩
    split at h
    · rename_i xs hs
      obtain ⟨a, ws, e, hq, rs⟩ := seq_v sr r hs
      subst e
      have hl := seq_len sr r hs
      exact ⟨a, ws, rfl, hq, fun q hp => an.lst sr rs (by rw [rs.length]; exact hl) hp h⟩
    · exact h.elim
  · exact h.elim
/-- isinstance(x, T) -/
def tyOf (M : Mem) : D → Option String
  | .non => some "NoneType"
  | .bl _ => some "bool"
  | .int _ => some "int"
  | .str _ => some "str"
  | .tup _ => some "tuple"
  | .kup _ => some "tuple"
  | .rol _ => some "list"
  | .ref n => (match M[n]? with
    | some (.lst _) => some "list"
    | some (.dK _) => some "dict"
    | some (.dT _) => some "dict"
    | none => none)
  | .fn _ => none
def eIsi (T : String) (a : DE) : DE := fun C ρ M P => a C ρ M fun d M1 => match tyOf M1 d with
  | some t => (match kitB t T with
    | some b => P (.bl b) M1
    | none => False)
  | none => False
theorem tyX_v {K : PySem.W.Frag} {α : List Addr} {H : Hp} {M : Mem} {v : V} {d : D} {t : String} (st : StR K fa α H M) (r : Rp K fa α H v d) (h : tyOf M d = some t) : TyX K H v (.type t) := by
  cases r with
  | non => cases h; exact .base .non
  | bl b => cases h; exact .base (.bl b)
  | int i => cases h; exact .base (.int i)
  | str z => cases h; exact .base (.str z)
  | tup s l r => cases h; exact .base (.tup s)
  | @kup a vs ds s l r =>
    cases h
    rcases s (fun _ => none) with (q | ⟨o, q⟩) | ⟨o, its, n, e, c, _⟩
    · cases q
    · cases q
    · exact .kTuple e c
  | @rol a vs ds s l r =>
    cases h
    rcases s with ⟨o, s⟩ | s
    · exact .base (.frz s)
    · rcases s (fun _ => none) with (q | ⟨o, q⟩) | ⟨o, its, n, e, c, _⟩
      · cases q
      · cases q
      · exact .kList e c
  | @ref n a ea =>
    have h : (match M[n]? with
      | some (.lst _) => some "list"
      | some (.dK _) => some "dict"
      | some (.dT _) => some "dict"
      | none => none) = some t := h
    cases q : M[n]? with
    | none => rw [q] at h; cases h
    | some c =>
      rw [q] at h
      cases c with
      | lst ys => cases h; obtain ⟨vs, hv, _⟩ := st.cell n _ a q ea; exact .base (.lst hv)
      | dK ys => cases h; obtain ⟨vs, hv, _⟩ := st.cell n _ a q ea; exact .base (.dK hv)
      | dT ys => cases h; obtain ⟨vs, hv, _⟩ := st.cell n _ a q ea; exact .base (.dT hv)
  | fn i => cases h
theorem d_isi {x : Str} {T : String} {p p2 : Pos} (hg : Gl X "isinstance") (hm : X.mg "isinstance" = none) (hg2 : Gl X x) (hm2 : X.mg x = none) (hv2 : bootBuiltins x = some (.type T)) (hn2 : x ≠ "__name__") (hdb2 : (x == ("__debug__" : Str)) = false) (ha : PE X a (LE X.K fa C ta))
    (he : starEach [a, .Name x p2] X.env = (false, eval a X.env) :: starEach [.Name x p2] X.env) (he2 : starEach [.Name x p2] X.env = (false, eval (.Name x p2) X.env) :: starEach [] X.env) (hpl : (backTo pos (starEach [.Name x p2] X.env)).any (·.1) = false) :
    PE X (.Call (.Name "isinstance" p) [a, .Name x p2] [] pos) (LE X.K fa C (eIsi T ta)) :=
  (pe_callB call_isi hg hm (by decide +kernel) (pa_cons ha (pa_cons (pe_bltn (v := .ty T) hg2 hm2 hv2 rfl hn2 hdb2) pa_nil he2) he) (by decide) (by decide) he hpl).imp fun σ H Q ⟨ρ, M, α, P, er, sr, h, an⟩ =>
    ⟨ρ, M, α, _, er, sr, h, fun v d H' α' M' e s r p => by
      have p : (match tyOf M' d with
        | some t => (match kitB t T with
          | some b => P (.bl b) M'
          | none => False)
        | none => False) := p
      cases q : tyOf M' d with
      | none => rw [q] at p; exact p.elim
      | some t =>
        rw [q] at p
        cases q2 : kitB t T with
        | none => simp only [q2] at p
        | some b =>
          simp only [q2] at p
          exact ⟨v, .ty T, _, _, b, rfl, .ty T, tyX_v s r q, kit_ty q2, an _ _ _ _ _ e s (.bl b) p⟩⟩
end
end DL
/-! The data layer, part 6: comprehensions, methods, slices, enumerate, zip. -/
namespace DL
open PySem PySem.Spec PyProof.Rows L2

/-! ### comprehensions -/
def cloop (g : D → Env → Mem → (Env → Mem → Prop) → Prop) (tt : Env → Mem → (Bool → Mem → Prop) → Prop) (e : Env → Mem → (D → Mem → Prop) → Prop) (grd : Mem → Prop) (ρ : Env) (P : List D → Mem → Prop) : List D → List D → Mem → Prop
  | [], acc, M => grd M ∧ P acc M
  | x :: xs, acc, M => grd M ∧ g x ρ M fun ρ2 M2 => tt ρ2 M2 fun b M3 => if b = true then e ρ2 M3 fun d M4 => cloop g tt e grd ρ P xs (acc ++ [d]) M4 else cloop g tt e grd ρ P xs acc M3
def Ctx.calm (C : Ctx) : Ctx := { C with ex := fun _ _ _ _ => False }
def wiped (ρ : Env) (vs : List Nat) : Env := vs.foldr (fun i (r : Env) => r.set i none) ρ
def lcomp (w : DI) (g : DG) (tt : DT) (e : DE) (vs : List Nat) : DLs := fun C ρ M P => w C ρ M fun xs grd M1 => cloop (g C.calm) (tt C.calm) (e C.calm) grd (wiped ρ vs) P xs [] M1
def tYesD : DT := fun _ _ M P => P true M

section
variable {K : PySem.W.Frag} {fa : Org} {α α' : List Addr} {H H' : Hp} {M : Mem}
/-- an object of ours that is no cell is written -/
theorem Ext.priv {p : Addr} {o : HO} (e : Ext K H H' α α') (hp : H p = none) : Ext K H (upd H' p o) α α' where
  tup := fun a vs h => by rw [upd_ne (ne_of_none h hp)]; exact e.tup a vs h
  frz := fun a o vs h => by rw [upd_ne (ne_of_none h hp)]; exact e.frz a o vs h
  pre := e.pre
  keep := fun a u n h => by rw [upd_ne (ne_of_none h hp)]; exact e.keep a u n h
  there := fun a u h => by
    obtain ⟨u', h'⟩ := e.there a u h
    exact ⟨u', by rw [upd_ne (ne_of_none h hp)]; exact h'⟩
  fresh := e.fresh
theorem StR.priv {p : Addr} {u o : HO} (s : StR K fa α H M) (hp : H p = some u) (hm : Mut (some u)) (na : p ∉ α) (h0 : fa.H0 p = none) : StR K fa α (upd H p o) M where
  len := s.len
  nod := s.nod
  cell := fun n c a e1 e2 => by
    have g : Gr K H (upd H p o) α α := ⟨fun a vs h => by rw [upd_ne (ne_of h hp (fun z => by subst z; exact hm))]; exact h, fun a o vs h => by rw [upd_ne (ne_of h hp (fun z => by subst z; exact hm))]; exact h, ⟨[], by simp⟩⟩
    refine (s.cell n c a e1 e2).grow g fun w h => ?_
    have hne : a ≠ p := fun z => by
      subst z
      exact na (List.mem_of_getElem? e2)
    rw [upd_ne hne]; exact h
  org := s.org.priv h0
theorem Gr.priv {p : Addr} {u o : HO} (hp : H p = some u) (hm : Mut (some u)) : Gr K H (upd H p o) α α :=
  ⟨fun a vs h => by rw [upd_ne (ne_of h hp (fun z => by subst z; exact hm))]; exact h, fun a o vs h => by rw [upd_ne (ne_of h hp (fun z => by subst z; exact hm))]; exact h, ⟨[], by simp⟩⟩
end

section
variable {X : Cx} {fa : Org} {C : Ctx} {a b c e elt tg iter : Expr} {es rest ifs : List Expr} {pos : Pos} {l r : DLs} {da : DA} {ta tb te : DE} {w : DI} {g : DG} {tt : DT} {ws : List Nat} {scope : Scope} {own : List (Str × Nat)}
theorem comp_go {vs : List Nat} (hw : ∀ i ∈ ws, i ∈ vs) {σ : L2.St} {H : Hp} {Q : VK} (h : LL X.K fa C (lcomp w g tt te vs) σ H Q) : tLc (LI X.K fa C w) (LG X.K fa C.calm ws g) (LT X.K fa C.calm tt) (LE X.K fa C.calm te) vs σ H Q := by
  obtain ⟨ρ, M, α, P, er, sr, h, an⟩ := h
  refine ⟨ρ, M, α, _, er, sr, h, fun J H1 α1 M1 xs grd e1 s1 ok p1 => ?_⟩
  intro Dn hD
  have hD0 : H Dn = none := by
    cases q : H Dn with
    | none => rfl
    | some u =>
      obtain ⟨u', h'⟩ := e1.there _ _ q
      rw [hD] at h'; cases h'
  have erw := EnvR.wiped (vs := vs) (er.mono e1)
  refine ⟨fun i m H2 => ∃ (M2 : Mem) (α2 : List Addr) (acc : List D) (us : List V), i + m = xs.length ∧ Ext X.K H1 H2 α1 α2 ∧ StR X.K fa α2 H2 M2 ∧ H2 Dn = some (.lst us) ∧ Dn ∉ α2 ∧ us.length ≤ i ∧ Rps X.K fa α2 H2 us acc ∧
    cloop (g C.calm) (tt C.calm) (te C.calm) grd (wiped ρ vs) P (xs.drop i) acc M2, ⟨xs.length, M1, α1, [], [], by omega, Ext.refl.priv hD, ?_, upd_same, s1.notin hD, Nat.le_refl _, .nil, p1⟩, ?_⟩
  · exact s1.new hD
  · rintro i m H2 ⟨M2, α2, acc, us, em, e2, s2, h2, n2, l2, r2, p2⟩
    cases m with
    | zero =>
      have hd : xs.drop i = [] := List.drop_eq_nil_of_le (by omega)
      rw [hd] at p2
      refine .inl ⟨(ok.go H2 α2 M2 e2 s2 p2.1 i).1 (by omega), ?_⟩
      exact an Dn us acc H2 α2 M2 (e1.trans e2) s2 h2 hD0 n2 (by have := ok.len; omega) r2 p2.2
    | succ m =>
      have hi : i < xs.length := by omega
      have hd : xs.drop i = xs[i] :: xs.drop (i + 1) := List.drop_eq_getElem_cons hi
      rw [hd] at p2
      obtain ⟨hg2, p2⟩ := p2
      obtain ⟨_, go, yl⟩ := ok.go H2 α2 M2 e2 s2 hg2 i
      refine .inr ⟨go hi, fun H3 => ∃ (M2 : Mem) (α2 : List Addr) (acc : List D) (us : List V), Ext X.K H1 H3 α1 α2 ∧ StR X.K fa α2 H3 M2 ∧ H3 Dn = some (.lst us) ∧ Dn ∉ α2 ∧ us.length ≤ i + 1 ∧ Rps X.K fa α2 H3 us acc ∧
        cloop (g C.calm) (tt C.calm) (te C.calm) grd (wiped ρ vs) P (xs.drop (i + 1)) acc M2,
        fun H3 ⟨M3, α3, acc3, us3, a1, a2, a3, a4, a5, a6, a7⟩ => ⟨m, Nat.lt_succ_self m, M3, α3, acc3, us3, by omega, a1, a2, a3, a4, a5, a6, a7⟩, fun v H3 hy => ?_⟩
      obtain ⟨e3, s3, r3⟩ := yl _ v H3 (List.getElem?_eq_getElem hi) hy
      have k3 : H3 Dn = some (.lst us) := e3.keep _ _ n2 h2
      refine ⟨wiped ρ vs, M2, α2, xs[i], _, erw.mono (e2.trans e3), s3, r3, p2, fun σ4 ρ4 H4 α4 M4 e4 er4 s4 hw4 p4 => ?_⟩
      refine ⟨by rw [hw4 vs hw, wipe_wipe], ρ4, M4, α4, _, er4, s4, p4, fun k H5 α5 M5 e5 s5 p5 => ?_⟩
      have n4 : Dn ∉ α4 := fun z => (e4.fresh _ z).elim n2 fun q => by rw [k3] at q; cases q
      have k4 : H4 Dn = some (.lst us) := e4.keep _ _ n2 k3
      have n5 : Dn ∉ α5 := fun z => (e5.fresh _ z).elim n4 fun q => by rw [k4] at q; cases q
      have k5 : H5 Dn = some (.lst us) := e5.keep _ _ n4 k4
      cases k with
      | false => exact ⟨M5, α5, acc, us, ((e2.trans e3).trans e4).trans e5, s5, k5, n5, by omega, r2.mono ((e3.trans e4).trans e5), p5⟩
      | true =>
        refine ⟨ρ4, M5, α5, _, er4.mono e5, s5, p5, fun y d H6 α6 M6 e6 s6 r6 p6 => ?_⟩
        have n6 : Dn ∉ α6 := fun z => (e6.fresh _ z).elim n5 fun q => by rw [k5] at q; cases q
        have k6 : H6 Dn = some (.lst us) := e6.keep _ _ n5 k5
        have ee := (((e2.trans e3).trans e4).trans e5).trans e6
        refine ⟨us, k6, by have := ok.len; omega, M6, α6, acc ++ [d], us ++ [y], ee.priv hD, s6.priv k6 True.intro n6 (sr.h0 hD0), upd_same, n6, by rw [List.length_append]; show us.length + 1 ≤ i + 1; omega, ?_, p6⟩
        exact ((r2.mono (((e3.trans e4).trans e5).trans e6)).append (.cons r6 .nil)).grow (Gr.priv k6 True.intro)
where
  wipe_wipe {σ : L2.St} {vs : List Nat} : wipe (wipe σ vs) vs = wipe σ vs := by
    apply List.ext_getElem?
    intro j
    rw [wipe_get, wipe_length, wipe_get]
    by_cases h : j ∈ vs
    · rw [if_pos h, if_pos h]
    · rw [if_neg h, if_neg h]
theorem l_comp (hc : X.calm = true) (hN : X.N.Nodup) (hi : PI X tg iter (LI X.K fa C w)) (ok : BlkOk X.N X.env.scope scope own) (hws : ∀ i ∈ ws, i ∈ own.map (·.2))
    (hg : ∀ (s : Shared) (H : Hp) (Ca : Addr) (cl : List (Str × Addr)) (fp : List Addr), PG (X.blk s H scope (compEnvC scope cl Ca X.env) fp) tg (LG X.K fa C.calm ws g)) (ht : ∀ (s : Shared) (H : Hp) (Ca : Addr) (cl : List (Str × Addr)) (fp : List Addr), PTs (X.blk s H scope (compEnvC scope cl Ca X.env) fp) ifs (LT X.K fa C.calm tt))
    (he : ∀ (s : Shared) (H : Hp) (Ca : Addr) (cl : List (Str × Addr)) (fp : List Addr), PE (X.blk s H scope (compEnvC scope cl Ca X.env) fp) elt (LE X.K fa C.calm te)) (hs : ∀ x, foldedSetIterable iter X.env x = pure x) :
    PE X (.ListComp elt [⟨tg, iter, ifs, 0⟩] scope pos) (LL X.K fa C (lcomp w g tt te (own.map (·.2)))) := (pe_lc hc hN hi ok hg ht he hs).imp fun _ _ _ h => comp_go hws h
theorem s_setLc {i : Nat} {y : Str} {py spos : Pos} (hc : X.calm = true) (hN : X.N.Nodup) (hy : X.N[i]? = some y) (hyl : X.env.scope.names.lookup y = some .local)
    (hsw : swapsWith (.ListComp elt [⟨tg, iter, ifs, 0⟩] scope pos) (some (.Name y py)) spos.line X.env = pure true) (hi : PI X tg iter (LI X.K fa C w)) (ok : BlkOk X.N X.env.scope scope own) (hws : ∀ i ∈ ws, i ∈ own.map (·.2))
    (hg : ∀ (s : Shared) (H : Hp) (Ca : Addr) (cl : List (Str × Addr)) (fp : List Addr), PG (X.blk s H scope (compEnvC scope cl Ca X.env) fp) tg (LG X.K fa C.calm ws g)) (ht : ∀ (s : Shared) (H : Hp) (Ca : Addr) (cl : List (Str × Addr)) (fp : List Addr), PTs (X.blk s H scope (compEnvC scope cl Ca X.env) fp) ifs (LT X.K fa C.calm tt))
    (he : ∀ (s : Shared) (H : Hp) (Ca : Addr) (cl : List (Str × Addr)) (fp : List Addr), PE (X.blk s H scope (compEnvC scope cl Ca X.env) fp) elt (LE X.K fa C.calm te)) (hs : ∀ x, foldedSetIterable iter X.env x = pure x) :
    PS X (.Assign [.Name y py] (.ListComp elt [⟨tg, iter, ifs, 0⟩] scope pos) spos) (LS X.K fa C (sAsg (eNew (lcomp w g tt te (own.map (·.2)))) (gName i))) :=
  (ps_setLc hc hN hy hyl hsw hi ok hg ht he hs).imp fun D σ H ⟨ρ, M, α, E, er, sr, h, en⟩ => by
    have q : LE X.K fa C (eNew (lcomp w g tt te (own.map (·.2)))) σ H (fun x H1 => D.nx (σ.set i (some x)) H1) :=
      ⟨ρ, M, α, _, er, sr, h, fun v d H' α' M' e s r p => en.nx _ _ H' α' M' e ((er.mono e).set r) s p⟩
    obtain ⟨ρ, M, α, P, er, sr, h, an⟩ := q
    refine comp_go hws ⟨ρ, M, α, _, er, sr, h, fun a vs ds H' α' M' e s ha hn na l r p => an _ _ _ (α' ++ [a]) _ ⟨⟨e.tup, e.frz, by obtain ⟨β, hβ⟩ := e.pre; exact ⟨β ++ [a], by rw [hβ, List.append_assoc]⟩⟩, e.keep, e.there, fun b hb => ?_⟩ (s.adopt ha na l r (sr.h0 hn)) (.ref (by rw [← s.len, List.getElem?_concat_length])) p⟩
    rcases List.mem_append.mp hb with z | z
    · exact e.fresh b z
    · have : b = a := by simpa using z
      subst this
      exact .inr hn
theorem ts_nil : PTs X [] (LT X.K fa C tYesD) := pts_nil.imp fun σ H Q ⟨ρ, M, α, P, er, sr, h, an⟩ => an true H α M Ext.refl sr h
theorem ts_one (h : PT X c (LT X.K fa C tt)) : PTs X [c] (LT X.K fa C tt) := pts_one h
end

/-! ### methods -/
abbrev DM := D → List D → Mem → Po → Prop
def LM (K : PySem.W.Frag) (fa : Org) (m : DM) : V → List V → Hp → VK → Prop := fun x xs H Q => ∃ (M : Mem) (α : List Addr) (d : D) (ds : List D) (P : Po), StR K fa α H M ∧ Rp K fa α H x d ∧ Rps K fa α H xs ds ∧ m d ds M P ∧ Ans K fa α H P Q
def tyIs (T : String) (M : Mem) : D → Prop
  | .str _ => T = "str"
  | .int _ => T = "int"
  | .rol _ => T = "list"
  | .ref n => (match M[n]? with
    | some (.lst _) => T = "list"
    | some (.dK _) => T = "dict"
    | some (.dT _) => T = "dict"
    | none => False)
  | _ => False
def eM (T : String) (m : DM) (o : DE) (a : DA) : DE := fun C ρ M P => o C ρ M fun d M1 => tyIs T M1 d ∧ a C ρ M1 fun ds M2 => m d ds M2 P
theorem ty_v {K : PySem.W.Frag} {fa : Org} {α : List Addr} {H : Hp} {M : Mem} {v : V} {d : D} {T : String} (st : StR K fa α H M) (r : Rp K fa α H v d) (h : tyIs T M d) : tyV K T v H := by
  cases r with
  | str z => exact h
  | int z => exact h
  | @rol a vs ds s l r => exact .inl ⟨h, vs, s.elim (fun z => .inl (.inr z)) fun z => z H⟩
  | @ref n a ea =>
    have h : (match M[n]? with
      | some (.lst _) => T = "list"
      | some (.dK _) => T = "dict"
      | some (.dT _) => T = "dict"
      | none => False) := h
    cases q : M[n]? with
    | none => rw [q] at h; exact h.elim
    | some c =>
      rw [q] at h
      cases c with
      | lst ys => obtain ⟨vs, hv, _⟩ := st.cell n _ a q ea; exact .inl ⟨h, vs, .inl (.inl hv)⟩
      | dK ys => obtain ⟨vs, hv, _⟩ := st.cell n _ a q ea; exact .inr (.inr (.inl ⟨h, .inl ⟨vs, hv⟩⟩))
      | dT ys => obtain ⟨vs, hv, _⟩ := st.cell n _ a q ea; exact .inr (.inr (.inl ⟨h, .inr ⟨vs, hv⟩⟩))
  | _ => exact (show False from h).elim
section
variable {X : Cx} {fa : Org} {C : Ctx} {o e : Expr} {es : List Expr} {da : DA} {to : DE} {m : DM}
theorem d_meth {name : Str} {apos cpos : Pos} {T id : String} (pa : PlainAttrs T) (slot : Slot T name id) (hty : typeOf (.builtin id) = pure (.type "method_descriptor")) (hm : MtR X id (LM X.K fa m)) (ho : PE X o (LE X.K fa C to)) (ha : PA X (e :: es) (LA X.K fa C da))
    (h1 : attributeBase o name X.env (eval o X.env) = eval o X.env)
    (h2 : (((((backTo cpos (starEach (e :: es) X.env)).all fun x => !x.fst) && (backToKw cpos (keywordEach [] X.env)).all fun x => x.fst.isSome) && decide (((e :: es).length + ([] : List Keyword).length + if ([] : List Keyword).isEmpty = true then 0 else 1) < 30)) = true))
    (h3 : (apos.endLine == cpos.line) = true) (h4 : starEach (e :: es) X.env = (false, eval e X.env) :: starEach es X.env) (h5 : ((backTo cpos (starEach es X.env)).any fun x => x.fst) = false) :
    PE X (.Call (.Attribute o name apos) (e :: es) [] cpos) (LE X.K fa C (eM T m to da)) :=
  (pe_bm pa slot hty hm ho ha h1 h2 h3 h4 h5).imp fun σ H Q ⟨ρ, M, α, P, er, sr, h, an⟩ => ⟨ρ, M, α, _, er, sr, h, fun v d H' α' M' e s r p => ⟨ty_v s r p.1, ρ, M', α', _, er.mono e, s, p.2, fun vs ds H2 α2 M2 e2 s2 r2 p2 =>
    ⟨M2, α2, d, ds, P, s2, r.mono e2, r2, p2, an.ext (e.trans e2)⟩⟩⟩
end
def mAppend : DM := fun d ds M P => match d, ds with
  | .ref n, [x] => (match M[n]? with
    | some (.lst xs) => xs.length < sizeLine ∧ P .non (M.set n (.lst (xs ++ [x])))
    | _ => False)
  | _, _ => False
def mExtend : DM := fun d ds M P => match d, ds with
  | .ref n, [.ref k] => (match M[n]?, M[k]? with
    | some (.lst xs), some (.lst ys) => xs.length + ys.length ≤ sizeLine ∧ P .non (M.set n (.lst (xs ++ ys)))
    | _, _ => False)
  | _, _ => False
def mPop : DM := fun d ds M P => match d, ds with
  | .ref n, [] => (match M[n]? with
    | some (.lst xs) => (match xs[xs.length - 1]? with
      | some y => P y (M.set n (.lst xs.dropLast))
      | none => False)
    | _ => False)
  | .ref n, [.int i] => (match M[n]? with
    | some (.lst xs) => (-(2 ^ 63) ≤ i ∧ i < 2 ^ 63) ∧ (match seqIndex? i xs.length with
      | some k => (match xs[k]? with
        | some y => P y (M.set n (.lst (xs.eraseIdx k)))
        | none => False)
      | none => False)
    | _ => False)
  | _, _ => False
def mReverse : DM := fun d ds M P => match d, ds with
  | .ref n, [] => (match M[n]? with
    | some (.lst xs) => P .non (M.set n (.lst xs.reverse))
    | _ => False)
  | _, _ => False
section
variable {X : Cx} {fa : Org}
theorem cell_l {K : PySem.W.Frag} {α : List Addr} {H : Hp} {M : Mem} {n : Nat} {a : Addr} {xs : List D} (st : StR K fa α H M) (ea : α[n]? = some a) (q : M[n]? = some (.lst xs)) : ∃ vs, H a = some (.lst vs) ∧ vs.length ≤ sizeLine ∧ Rps K fa α H vs xs := st.cell n _ a q ea
/-- a list's cell is written, the answer a flat value -/
theorem Ans.wr {K : PySem.W.Frag} {α : List Addr} {H : Hp} {M : Mem} {P : Po} {Q : VK} {n : Nat} {a : Addr} {vs ws : List V} {ds : List D} {v : V} {d : D} (an : Ans K fa α H P Q) (st : StR K fa α H M) (ea : α[n]? = some a) (hv : H a = some (.lst vs)) (l : ws.length ≤ sizeLine) (r : Rps K fa α H ws ds) (rv : Rp K fa α H v d) (h : P d (M.set n (.lst ds))) : Q v (upd H a (.lst ws)) := by
  have ex : Ext K H (upd H a (.lst ws)) α α := Ext.write hv (List.mem_of_getElem? ea) True.intro
  exact an v d _ α _ ex (st.write (c := .lst ds) ea hv True.intro ⟨ws, upd_same, l, r.mono ex⟩) (rv.mono ex) h
theorem m_append : MtR X "list.append" (LM X.K fa mAppend) := (show MtR X "list.append" rAppend from mt_append).imp fun x xs H Q ⟨M, α, d, ds, P, sr, r, rs, h, an⟩ => by
  unfold mAppend at h
  split at h
  · rcases rs with _ | ⟨ry, _ | _⟩
    split at h
    · rename_i zs hM
      cases r with
      | @ref n a ea =>
        obtain ⟨vs, hv, l, rz⟩ := cell_l sr ea hM
        have hl : vs.length < sizeLine := by rw [rz.length]; exact h.1
        exact ⟨a, vs, _, rfl, rfl, hv, hl, an.wr sr ea hv (by rw [List.length_append]; exact hl) (rz.snoc ry) .non h.2⟩
    · exact h.elim
  · exact h.elim
theorem m_extend : MtR X "list.extend" (LM X.K fa mExtend) := (show MtR X "list.extend" rExtend from mt_extend).imp fun x xs H Q ⟨M, α, d, ds, P, sr, r, rs, h, an⟩ => by
  unfold mExtend at h
  split at h
  · rcases rs with _ | ⟨ry, _ | _⟩
    split at h
    · rename_i zs ys hM hM2
      cases r with
      | @ref n a ea =>
        cases ry with
        | @ref k b eb =>
          obtain ⟨vs, hv, l, rz⟩ := cell_l sr ea hM
          obtain ⟨us, hu, l2, rz2⟩ := cell_l sr eb hM2
          have hl : vs.length + us.length ≤ sizeLine := by rw [rz.length, rz2.length]; exact h.1
          exact ⟨a, b, vs, us, rfl, rfl, hv, hu, hl, an.wr sr ea hv (by rw [List.length_append]; exact hl) (rz.append rz2) .non h.2⟩
    · exact h.elim
  · exact h.elim
theorem m_pop : MtR X "list.pop" (LM X.K fa mPop) := ((show MtR X "list.pop" rPop from mt_pop).or (show MtR X "list.pop" rPopAt from mt_popAt)).imp fun x xs H Q ⟨M, α, d, ds, P, sr, r, rs, h, an⟩ => by
  unfold mPop at h
  split at h
  · rcases rs with _ | _
    split at h
    · rename_i zs hM
      split at h
      · rename_i y hy
        cases r with
        | @ref n a ea =>
          obtain ⟨vs, hv, l, rz⟩ := cell_l sr ea hM
          obtain ⟨v, e1, rv⟩ := rz.get hy
          rw [← rz.length] at e1
          exact .inl ⟨a, vs, v, rfl, rfl, hv, e1, an.wr sr ea hv (by rw [List.length_dropLast]; omega) rz.dropLast rv h⟩
      · exact h.elim
    · exact h.elim
  · rcases rs with _ | ⟨ry, _ | _⟩
    cases ry
    split at h
    · rename_i zs hM
      obtain ⟨hb, h⟩ := h
      split at h
      · rename_i k hk
        split at h
        · rename_i y hy
          cases r with
          | @ref n a ea =>
            obtain ⟨vs, hv, l, rz⟩ := cell_l sr ea hM
            obtain ⟨v, e1, rv⟩ := rz.get hy
            exact .inr ⟨a, vs, _, k, v, rfl, rfl, hv, hb.1, hb.2, by rw [rz.length]; exact hk, e1, an.wr sr ea hv (Nat.le_trans (List.length_eraseIdx_le _ _) l) (rz.erase k) rv h⟩
        · exact h.elim
      · exact h.elim
    · exact h.elim
  · exact h.elim
theorem m_reverse : MtR X "list.reverse" (LM X.K fa mReverse) := (show MtR X "list.reverse" rReverse from mt_reverse).imp fun x xs H Q ⟨M, α, d, ds, P, sr, r, rs, h, an⟩ => by
  unfold mReverse at h
  split at h
  · rcases rs with _ | _
    split at h
    · rename_i zs hM
      cases r with
      | @ref n a ea =>
        obtain ⟨vs, hv, l, rz⟩ := cell_l sr ea hM
        exact ⟨a, vs, rfl, rfl, hv, an.wr sr ea hv (by rw [List.length_reverse]; exact l) rz.rev .non h⟩
    · exact h.elim
  · exact h.elim
end

/-! ### slices -/
abbrev DO := Ctx → Env → Mem → (Option Int → Mem → Prop) → Prop
def oNone : DO := fun _ _ M P => P none M
def oSome (a : DE) : DO := fun C ρ M P => a C ρ M fun d M1 => match d with
  | .int i => P (some i) M1
  | _ => False
def cutD (xs : List D) (lo hi : Option Int) : List D := (xs.drop (HT.sIx xs.length 0 lo)).take (HT.sIx xs.length xs.length hi - HT.sIx xs.length 0 lo)
theorem Rps.cut {K : PySem.W.Frag} {fa : Org} {α : List Addr} {H : Hp} {vs : List V} {ds : List D} (r : Rps K fa α H vs ds) (lo hi : Option Int) : Rps K fa α H (cutV vs lo hi) (cutD ds lo hi) := by
  unfold cutV cutD
  rw [r.length]
  exact (r.drop _).take _
/-- x[lo:hi]: a tuple, a text; a list gives a new cell -/
def opCut (d : D) (lo hi : Option Int) (M : Mem) (P : Po) : Prop := match d with
  | .tup xs => P (.tup (cutD xs lo hi)) M
  | .str z => z.length ≤ sizeLine ∧ P (.str (cutS z lo hi)) M
  | .rol xs => P (.ref M.length) (M ++ [.lst (cutD xs lo hi)])
  | .ref n => (match M[n]? with
    | some (.lst xs) => P (.ref M.length) (M ++ [.lst (cutD xs lo hi)])
    | _ => False)
  | _ => False
def eCut (a : DE) (lo hi : DO) : DE := fun C ρ M P => a C ρ M fun d M1 => lo C ρ M1 fun x M2 => hi C ρ M2 fun y M3 => opCut d x y M3 P
def LOp (K : PySem.W.Frag) (fa : Org) (C : Ctx) (t : DO) : TO := fun σ H Q => ∃ (ρ : Env) (M : Mem) (α : List Addr) (P : Option Int → Mem → Prop), EnvR K fa α H σ ρ ∧ StR K fa α H M ∧ t C ρ M P ∧
  ∀ (o : Option Int) (H' : Hp) (α' : List Addr) (M' : Mem), Ext K H H' α α' → StR K fa α' H' M' → P o M' → Q o H'
section
variable {X : Cx} {fa : Org} {C : Ctx} {e : Expr} {ta te : DE} {tl th : DO} {lo hi : Option Expr} {pos p2 : Pos}
theorem o_none : PO X none (LOp X.K fa C oNone) := ⟨fun pins s σ H Q I ⟨ρ, M, α, P, er, sr, h, an⟩ => po_none.run pins s σ H Q I (an none H α M Ext.refl sr h)⟩
theorem o_some (he : PE X e (LE X.K fa C te)) : PO X (some e) (LOp X.K fa C (oSome te)) := ⟨fun pins s σ H Q I ⟨ρ, M, α, P, er, sr, h, an⟩ => (po_some he).run pins s σ H Q I ⟨ρ, M, α, _, er, sr, h, fun v d H' α' M' e s r p => by
  cases d with
  | int i => cases r; exact ⟨i, rfl, an _ H' α' M' e s p⟩
  | _ => exact (show False from p).elim⟩⟩
theorem d_cut (ha : PE X e (LE X.K fa C ta)) (hl : PO X lo (LOp X.K fa C tl)) (hh : PO X hi (LOp X.K fa C th)) : PE X (.Subscript e (.Slice lo hi none p2) pos) (LE X.K fa C (eCut ta tl th)) :=
  (pe_slice (sl_list.or (sl_tupA.or sl_str)) ha hl hh).imp fun σ H Q ⟨ρ, M, α, P, er, sr, h, an⟩ => ⟨ρ, M, α, _, er, sr, h, fun v d H1 α1 M1 e1 s1 r1 p1 => ⟨ρ, M1, α1, _, er.mono e1, s1, p1, fun x H2 α2 M2 e2 s2 p2 => ⟨ρ, M2, α2, _, er.mono (e1.trans e2), s2, p2, fun y H3 α3 M3 e3 s3 p3 => by
    have an3 := an.ext ((e1.trans e2).trans e3)
    have r3 := r1.mono (e2.trans e3)
    cases r3 with
    | @tup a vs ds s l r =>
      refine .inr (.inl ⟨a, vs, rfl, .inl (.inl s), fun hz => ?_, fun hz q hq => ?_⟩)
      · have e : cutD ds x y = ds := by
          unfold cutD
          rw [← r.length, hz.1, hz.2, List.drop_zero, Nat.sub_zero, r.length, List.take_length]
        have p3 : P (.tup (cutD ds x y)) M3 := p3
        rw [e] at p3
        exact an3.here s3 (.tup s l r) p3
      · exact an3.tup s3 (r.cut x y) (Nat.le_trans (cutV_length _ _ _) l) hq p3
    | @rol a vs ds s l r =>
      exact .inl ⟨a, vs, rfl, s.elim (fun z => .inl (.inr z)) fun z => z _, fun q hq => an3.lst s3 (r.cut x y) (Nat.le_trans (cutV_length _ _ _) l) hq p3⟩
    | @str z => exact .inr (.inr ⟨z, rfl, p3.1, an3.here s3 (.str _) p3.2⟩)
    | @ref n a ea =>
      have p3 : (match M3[n]? with
        | some (.lst xs) => P (.ref M3.length) (M3 ++ [.lst (cutD xs x y)])
        | _ => False) := p3
      cases q : M3[n]? with
      | none => rw [q] at p3; exact p3.elim
      | some c =>
        rw [q] at p3
        cases c with
        | lst xs =>
          obtain ⟨vs, hv, l, r⟩ := cell_l s3 ea q
          exact .inl ⟨a, vs, rfl, .inl (.inl hv), fun q hq => an3.lst s3 (r.cut x y) (Nat.le_trans (cutV_length _ _ _) l) hq p3⟩
        | _ => exact p3.elim
    | _ => exact (show False from p3).elim⟩⟩⟩
end
end DL
/-! The data layer, part 7: calls of the text's own defs; a whole program's meaning. -/
namespace DL
open PySem PySem.Spec PyProof.Rows L2

section
variable {X : Cx} {fa : Org} {C : Ctx} {o e : Expr} {es : List Expr} {da : DA} {to : DE} {m : DM}
theorem d_meth0 {name : Str} {apos cpos : Pos} {T id : String} (pa : PlainAttrs T) (slot : Slot T name id) (hty : typeOf (.builtin id) = pure (.type "method_descriptor")) (hm : MtR X id (LM X.K fa m)) (ho : PE X o (LE X.K fa C to))
    (h1 : attributeBase o name X.env (eval o X.env) = eval o X.env) (h3 : (apos.endLine == cpos.line) = true) :
    PE X (.Call (.Attribute o name apos) [] [] cpos) (LE X.K fa C (eM T m to aNil)) :=
  (pe_bm0 pa slot hty hm ho h1 h3).imp fun σ H Q ⟨ρ, M, α, P, er, sr, h, an⟩ => ⟨ρ, M, α, _, er, sr, h, fun v d H' α' M' e s r p => ⟨ty_v s r p.1, M', α', d, [], P, s, r, .nil, p.2, an.ext e⟩⟩
def mBits : DM := fun d ds M P => match d, ds with
  | .int i, [] => P (.int (Builtin.Int.intBits i : Nat)) M
  | _, _ => False
theorem d_bits {apos cpos : Pos} (ho : PE X o (LE X.K fa C to)) (h1 : attributeBase o "bit_length" X.env (eval o X.env) = eval o X.env) (h3 : (apos.endLine == cpos.line) = true) :
    PE X (.Call (.Attribute o "bit_length" apos) [] [] cpos) (LE X.K fa C (eM "int" mBits to aNil)) :=
  (pe_bits ho h1 h3).imp fun σ H Q ⟨ρ, M, α, P, er, sr, h, an⟩ => ⟨ρ, M, α, _, er, sr, h, fun v d H' α' M' e s r p => by
    cases d with
    | int i => cases r; exact ⟨i, rfl, an.ext e |>.here s (.int _) p.2⟩
    | _ => exact (show False from p.2).elim⟩
end

/-! ### what a def promises, over data -/
/-- an exception's end -/
def XA (K : PySem.W.Frag) (fa : Org) (α : List Addr) (H : Hp) (ex : XP) (E : XK) : Prop :=
  ∀ (c : Nat) (fs : List D) (vs : List V) (dx : Addr) (H' : Hp) (α' : List Addr) (M' : Mem), Ext K H H' α α' → StR K fa α' H' M' → Rps K fa α' H' vs fs → H' dx = some (.xd ((fa.flds c).zip vs)) → dx ∉ α' → ex c fs M' → E (.ref (fa.cls c)) (some dx) H'
abbrev DSp := XP → List D → Mem → Po → Prop
def LSp (K : PySem.W.Frag) (fa : Org) (sp : DSp) : Sp := fun vs H Q E => ∃ (ds : List D) (M : Mem) (α : List Addr) (P : Po) (ex : XP), Rps K fa α H vs ds ∧ StR K { fa with H0 := H, α0 := α } α H M ∧ sp ex ds M P ∧ Ans K { fa with H0 := H, α0 := α } α H P Q ∧ XA K { fa with H0 := H, α0 := α } α H ex E
/-- how the meaning's exceptions lie in the wish -/
structure XS (X : Cx) (fa : Org) (C : Ctx) : Prop where
  ex : ∃ W : WX, Takes X W ∧ ∀ (σ : L2.St) (ρ : Env) (α : List Addr) (H : Hp) (M : Mem) (c : Nat) (fs : List D) (vs : List V) (dx : Addr), EnvR X.K fa α H σ ρ → StR X.K fa α H M → Rps X.K fa α H vs fs → H dx = some (.xd ((fa.flds c).zip vs)) → dx ∉ α → C.ex ρ c fs M → W (.ref (fa.cls c)) (some dx) σ H
theorem XS.calm {X : Cx} {fa : Org} {C : Ctx} : XS X fa C.calm := ⟨⟨fun _ _ _ _ => False, takes0, fun _ _ _ _ _ _ _ _ _ _ _ _ _ _ h => h⟩⟩
/-- what the module has -/
structure Glb where
  fns : List (Str × List Str)
  free : List Str
  bfn : List (Str × String)
  nums : List (Str × Int)
  tups : List (Str × List D)
structure Mo (G : Glb) (X : Cx) (fa : Org) (call : Nat → DSp) : Prop where
  hu : X.A.units + 65 < cLine
  free : ∀ x ∈ G.free, X.mg x = none
  bfn : ∀ p ∈ G.bfn, X.mg p.1 = some (.builtin p.2)
  nums : ∀ p ∈ G.nums, ∃ t, X.mg p.1 = some (.int p.2 t)
  tups : ∀ p ∈ G.tups, ∃ a, X.mg p.1 = some (.ref a) ∧ ∀ α H, Rp X.K fa α H (.ref a) (.kup p.2)
  fn : ∀ (i : Nat) (x : Str) (ps : List Str), G.fns[i]? = some (x, ps) → X.mg x = some (.ref (fa.fn i)) ∧ PySem.W.keepIn X.K (.ref (fa.fn i)) = true ∧
    ∃ k fd, FnOk X.prog X.w X.K X.mg X.base (L2.CX X.prog X.w) k (fa.fn i) fd ps (LSp X.K fa (call i)) ∧ Room k X.A ∧ Binds X.K fd ps []
section
variable {X : Cx} {fa : Org} {C : Ctx} {G : Glb} {e : Expr} {es : List Expr} {pos p : Pos} {da : DA} {x : Str} {i : Nat} {ps : List Str}
theorem call_go (xs : XS X fa C) : ∃ W : WX, Takes X W ∧ ∀ {σ : L2.St} {H : Hp} {Q : VK}, LE X.K fa C (eCall i da) σ H Q → tCallS (LSp X.K fa (C.call i)) (WE W) (LA X.K fa C da) σ H Q := by
  obtain ⟨W, tk, hw⟩ := xs.ex
  refine ⟨W, tk, fun {σ H Q} ⟨ρ, M, α, P, er, sr, h, an⟩ => ⟨ρ, M, α, _, er, sr, h, fun vs ds H1 α1 M1 e1 s1 r1 p1 => ?_⟩⟩
  refine ⟨ds, M1, α1, P, C.ex ρ, r1, s1.start, p1, fun v d H' α' M' e s r p => ?_, fun c fs vs dx H' α' M' e s r hd nd p => ?_⟩
  · exact an v d H' α' M' (e1.trans e) (s1.back s) (Rp.org (fa := { fa with H0 := H1, α0 := α1 }) (fb := fa) rfl r) p
  · exact hw σ ρ α' H' M' c fs vs dx (er.mono (e1.trans e)) (s1.back s) (Rps.org (fa := { fa with H0 := H1, α0 := α1 }) (fb := fa) rfl r) hd nd p
theorem d_call (xs : XS X fa C) (mo : Mo G X fa C.call) (hi : G.fns[i]? = some (x, ps)) (hg : Gl X x) (ha : PA X (e :: es) (LA X.K fa C da)) (hdb : (x == ("__debug__" : Str)) = false)
    (he : starEach (e :: es) X.env = (false, eval e X.env) :: starEach es X.env) (hpl : (backTo pos (starEach es X.env)).any (·.1) = false) : PE X (.Call (.Name x p) (e :: es) [] pos) (LE X.K fa C (eCall i da)) := by
  obtain ⟨W, tk, hw⟩ := call_go (i := i) (da := da) xs
  obtain ⟨hm, hk, k, fd, F, hr, hb⟩ := mo.fn i x ps hi
  exact (pe_callS F hr hg hm hk hb (fun σ => passAt tk σ) ha hdb he hpl).imp fun _ _ _ h => hw h
end
end DL
/-! The data layer, part 8: from the text's syntax to its meaning, with the proof beside it. -/
namespace DL
open PySem PySem.Spec PyProof.Rows L2

structure Cp where
  N : List Str
  sc : Scope
  fnb : Str → Bool
structure Hy (G : Glb) (c : Cp) (X : Cx) (fa : Org) (C : Ctx) : Prop where
  N : X.N = c.N
  nd : X.N.Nodup
  sc : X.env.scope = c.sc
  fn : X.fn = c.fnb
  calm : X.calm = true
  mo : Mo G X fa C.call
  xs : XS X fa C
structure HyS (G : Glb) (c : Cp) (X : Cx) (fa : Org) (C : Ctx) : Prop extends Hy G c X fa C where
  pa : PassesOwn (model X.prog X.w) X.A X.env X.xe
section
variable (G : Glb) (c : Cp)
def CE (e : Expr) := { t : DE // ∀ X fa C, Hy G c X fa C → PE X e (LE X.K fa C t) }
def CT (e : Expr) := { t : DT // ∀ X fa C, Hy G c X fa C → PT X e (LT X.K fa C t) }
def CW (op : BoolOp) (es : List Expr) := { t : DT // ∀ X fa C pos, Hy G c X fa C → PW X (.BoolOp op es pos) (LT X.K fa C t) }
def CV (op : BoolOp) (es : List Expr) := { t : DE // ∀ X fa C pos, Hy G c X fa C → PE X (.BoolOp op es pos) (LE X.K fa C t) }
def CA (es : List Expr) := { t : DA // ∀ X fa C, Hy G c X fa C → PA X es (LA X.K fa C t) }
def CL (e : Expr) := { t : DLs // ∀ X fa C, Hy G c X fa C → PE X e (LL X.K fa C t) }
def CI (tg e : Expr) := { t : DI // ∀ X fa C, Hy G c X fa C → PI X tg e (LI X.K fa C t) }
def CO (e : Option Expr) := { t : DO // ∀ X fa C, Hy G c X fa C → PO X e (LOp X.K fa C t) }
structure CG (e : Expr) where
  g : DG
  ws : List Nat
  ok : ∀ X fa C, Hy G c X fa C → PG X e (LG X.K fa C ws g)
structure CGs (es : List Expr) where
  g : DGs
  ws : List Nat
  ok : ∀ X fa C, Hy G c X fa C → PGs X es (LGs X.K fa C ws g)
def CTs (es : List Expr) := { t : DT // ∀ X fa C, Hy G c X fa C → PTs X es (LT X.K fa C t) }
def CS (s : Stmt) := { t : DS // ∀ X fa C, HyS G c X fa C → PS X s (LS X.K fa C t) }
def CSs (s : List Stmt) := { t : DS // ∀ X fa C, HyS G c X fa C → PSs X s (LS X.K fa C t) }
end

/-! ### side conditions -/
def plainE : Expr → Bool
  | .Starred .. => false
  | .ListComp .. => false
  | .SetComp .. => false
  | .DictComp .. => false
  | .Set .. => false
  | .Slice .. => false
  | _ => true
def notStar : Expr → Bool
  | .Starred .. => false
  | _ => true
def notSet : Expr → Bool
  | .Set .. => false
  | _ => true
def notSlice : Expr → Bool
  | .Slice .. => false
  | _ => true
def notComp : Expr → Bool
  | .ListComp .. => false
  | .SetComp .. => false
  | .DictComp .. => false
  | _ => true
def notCall : Expr → Bool
  | .Call .. => false
  | _ => true
theorem star_ok {e : Expr} {es : List Expr} {env : PySem.Env} (h : notStar e = true) : starEach (e :: es) env = (false, eval e env) :: starEach es env := by
  cases e <;> first | rfl | cases h
theorem stars_ok {pos : Pos} {env : PySem.Env} : ∀ {es : List Expr}, es.all notStar = true → (backTo pos (starEach es env)).any (·.1) = false
  | [], _ => rfl
  | e :: es, h => by
    rw [List.all_cons, Bool.and_eq_true] at h
    rw [star_ok h.1]
    show (false || (backTo pos (starEach es env)).any (·.1)) = false
    rw [stars_ok h.2]
    rfl
theorem stars_len {env : PySem.Env} : ∀ {es : List Expr}, es.all notStar = true → (starEach es env).length = es.length
  | [], _ => rfl
  | e :: es, h => by
    rw [List.all_cons, Bool.and_eq_true] at h
    rw [star_ok h.1]
    exact congrArg (· + 1) (stars_len h.2)
theorem few_ok {pos : Pos} {env : PySem.Env} {es : List Expr} (h : es.all notStar = true) (hl : es.length < 20) :
    (((((backTo pos (starEach es env)).all fun x => !x.fst) && (backToKw pos (keywordEach [] env)).all fun x => x.fst.isSome) && decide ((es.length + ([] : List Keyword).length + if ([] : List Keyword).isEmpty = true then 0 else 1) < 30)) = true) := by
  have h1 : ∀ {es : List Expr}, es.all notStar = true → ((backTo pos (starEach es env)).all fun x => !x.fst) = true := fun {es} h => by
    induction es with
    | nil => rfl
    | cons e es ih =>
      rw [List.all_cons, Bool.and_eq_true] at h
      rw [star_ok h.1]
      exact ih h.2
  rw [h1 h]
  show decide _ = true
  refine decide_eq_true ?_
  show es.length + 0 + 0 < 30
  omega
theorem swap_ok {e : Expr} {tg : Option Expr} {l : Nat} {env : PySem.Env} (h : notComp e = true) : swapsWith e tg l env = pure false := by
  cases e <;> first | rfl | cases h
theorem sole_ok {e tg : Expr} {l : Nat} {env : PySem.Env} (h : notComp e = true) : swapsWithSole [tg] e l env = pure false := swap_ok h
theorem base_ok {o : Expr} {n : Str} {env : PySem.Env} (h : notCall o = true) : attributeBase o n env (eval o env) = eval o env := by
  cases o <;> first | rfl | cases h
theorem ix_ok {b : Expr} (h : notSlice b = true) : PlainIx b := fun o i => by
  cases b <;> first | rfl | cases h
theorem mark_ok {op : CmpOp} {e : Expr} (h : notSet e = true) : behindInMarks op e = false := by
  cases e <;> first | rfl | cases h
theorem fold_ok {e : Expr} {env : PySem.Env} (h : notSet e = true) (x : Value) : foldedSetIterable e env x = pure x := by
  cases e <;> first | rfl | cases h
/-- as a test an expression is taken by its value -/
def byValue : Expr → Bool
  | .UnaryOp .Not _ _ => false
  | .BoolOp .. => false
  | .IfExp .. => false
  | .Compare .. => false
  | _ => true
theorem true_ok {e : Expr} {env : PySem.Env} (h : byValue e = true) (whole : Sem Value) : isTrue e env whole = (do let v ← whole; standAt e.pos; holding [v] (truthy v)) := by
  cases e with
  | UnaryOp op a p => cases op <;> first | rfl | cases h
  | _ => first | rfl | cases h
def glB (sc : Scope) (x : Str) : Bool := match sc.names.lookup x with
  | some .globalImplicit => true
  | _ => false
def visB (sc : Scope) (x : Str) : Bool := match sc.names.lookup x with
  | some .local => true
  | some .cell => true
  | some .free => true
  | _ => false
/-- a name that may be stored -/
def locB (c : Cp) (x : Str) : Bool := match c.sc.names.lookup x with
  | some .local => true
  | some .cell => c.fnb x
  | _ => false
def plainName (x : Str) : Bool := !(x == ("__debug__" : Str)) && !(x == ("__classdict__" : Str)) && !(x == ("__name__" : Str))
section
variable {G : Glb} {c : Cp} {X : Cx} {fa : Org} {C : Ctx} {x : Str}
theorem gl_ok (hy : Hy G c X fa C) (h : glB c.sc x = true) : Gl X x := by
  unfold glB at h
  rw [← hy.sc] at h
  show X.env.scope.names.lookup x = _
  split at h
  · assumption
  · cases h
theorem vis_ok (hy : Hy G c X fa C) (h : visB c.sc x = true) : Vis X.env.scope x := by
  unfold visB at h
  rw [← hy.sc] at h
  split at h
  · exact .inl (by assumption)
  · exact .inr (.inl (by assumption))
  · exact .inr (.inr (by assumption))
  · cases h
theorem loc_ok (hy : Hy G c X fa C) (h : locB c x = true) : Loc X.env.scope x ∧ (X.fn x = true ∨ X.env.scope.names.lookup x = some .local) := by
  unfold locB at h
  rw [← hy.sc, ← hy.fn] at h
  split at h
  · rename_i h1; exact ⟨.inl h1, .inr h1⟩
  · rename_i h1; exact ⟨.inr h1, .inl h⟩
  · cases h
theorem pn_ok (h : plainName x = true) : (x == ("__debug__" : Str)) = false ∧ (x == ("__classdict__" : Str)) = false ∧ x ≠ ("__name__" : Str) := by
  unfold plainName at h
  rw [Bool.and_eq_true, Bool.and_eq_true] at h
  refine ⟨by simpa using h.1.1, by simpa using h.1.2, fun e => ?_⟩
  have := h.2
  rw [e] at this
  simp at this
end
/-- the built-in nm, under its own name -/
def bi (G : Glb) (c : Cp) (f nm : Str) : Bool := decide (f = nm) && (glB c.sc nm && decide (nm ∈ G.free))
theorem bi_ok {G : Glb} {c : Cp} {f nm : Str} (h : bi G c f nm = true) : f = nm ∧ ∀ {X : Cx} {fa : Org} {C : Ctx}, Hy G c X fa C → Gl X nm ∧ X.mg nm = none := by
  unfold bi at h
  rw [Bool.and_eq_true, Bool.and_eq_true] at h
  exact ⟨of_decide_eq_true h.1, fun hy => ⟨gl_ok hy h.2.1, hy.mo.free nm (of_decide_eq_true h.2.2)⟩⟩

/-! ### the steps -/
structure Comp (G : Glb) where
  E : (c : Cp) → (e : Expr) → Option (CE G c e)
  T : (c : Cp) → (e : Expr) → Option (CT G c e)
  W : (c : Cp) → (op : BoolOp) → (es : List Expr) → Option (CW G c op es)
  V : (c : Cp) → (op : BoolOp) → (es : List Expr) → Option (CV G c op es)
  A : (c : Cp) → (es : List Expr) → Option (CA G c es)
  L : (c : Cp) → (e : Expr) → Option (CL G c e)
  I : (c : Cp) → (tg e : Expr) → Option (CI G c tg e)
  O : (c : Cp) → (e : Option Expr) → Option (CO G c e)
  Gt : (c : Cp) → (e : Expr) → Option (CG G c e)
  Gs : (c : Cp) → (es : List Expr) → Option (CGs G c es)
  S : (c : Cp) → (s : Stmt) → Option (CS G c s)
  Ss : (c : Cp) → (s : List Stmt) → Option (CSs G c s)
def binD : Operator → Option DOp
  | .Add => some opAdd
  | .Sub => some opSub
  | .Mult => some opMul
  | .FloorDiv => some opDiv
  | .Mod => some opMod
  | .Pow => some opPow
  | .LShift => some opShl
  | .RShift => some opShr
  | .BitAnd => some opAnd
  | .BitOr => some opOr
  | .BitXor => some opXor
  | _ => none
theorem binD_ok {X : Cx} {fa : Org} {op : Operator} {o : DOp} (h : binD op = some o) : OpR X (binaryOp op) (LO X.K fa o) := by
  cases op <;> first | (cases h; done) | skip
  all_goals
    cases h
    first | exact o_add | exact o_sub | exact o_mul | exact o_div | exact o_mod | exact o_pow | exact o_shl | exact o_shr | exact o_and | exact o_or | exact o_xor
def cmpD : CmpOp → Option DOp
  | .Lt => some opLt
  | .LtE => some opLe
  | .Gt => some opGt
  | .GtE => some opGe
  | .Eq => some opEq
  | .NotEq => some opNe
  | .Is => some opIs
  | .IsNot => some opIsNot
  | .In => some (inD false)
  | .NotIn => some (inD true)
theorem cmpD_ok {X : Cx} {fa : Org} {op : CmpOp} {o : DOp} (hu : X.A.units + 65 < cLine) (h : cmpD op = some o) : OpR X (compareOp op) (LO X.K fa o) := by
  cases op <;> cases h
  · exact o_eq (by omega)
  · exact o_ne (by omega)
  · exact o_lt
  · exact o_le
  · exact o_gt
  · exact o_ge
  · exact o_is
  · exact o_isnot
  · exact o_in hu
  · exact o_notin hu

theorem Mo.blk {G : Glb} {X : Cx} {fa : Org} {call : Nat → DSp} (m : Mo G X fa call) {s : Shared} {H : Hp} {scope : Scope} {cenv : PySem.Env} {fp : List Addr} : Mo G (X.blk s H scope cenv fp) fa call := ⟨m.hu, m.free, m.bfn, m.nums, m.tups, m.fn⟩
/-- the block of a comprehension -/
def blkCp (c : Cp) (scope : Scope) : Cp := { c with sc := relS scope c.sc, fnb := fun x => scope.names.lookup x == some .cell }
theorem Hy.blk {G : Glb} {c : Cp} {X : Cx} {fa : Org} {C : Ctx} (hy : Hy G c X fa C) {scope : Scope} (s : Shared) (H : Hp) (Ca : Addr) (cl : List (Str × Addr)) (fp : List Addr) : Hy G (blkCp c scope) (X.blk s H scope (compEnvC scope cl Ca X.env) fp) fa C.calm where
  N := hy.N
  nd := hy.nd
  sc := by
    show relabel scope X.env = relS scope c.sc
    rw [← hy.sc]
    rfl
  fn := rfl
  calm := hy.calm
  mo := hy.mo.blk
  xs := XS.calm

/-! ### expressions -/
section
variable {G : Glb} (p : Comp G) (c : Cp)
/-- a name: a slot; a def; a module's constant -/
def stepName (x : Str) (pos : Pos) : Option (CE G c (.Name x pos)) :=
  if hp : plainName x = true then
    if hv : visB c.sc x = true then
      match hi : c.N.findIdx? (fun y => decide (y = x)) with
      | some i => (match hN : c.N[i]? with
        | some y => if hy : y = x then some ⟨eVar i, fun X fa C h => d_var (by rw [h.N, hN, hy]) (vis_ok h hv) (pn_ok hp).1 (pn_ok hp).2.1⟩ else none
        | none => none)
      | none => none
    else if hg : glB c.sc x = true then
      match hn : G.nums.find? (fun q => decide (q.1 = x)) with
      | some q => if hx : q.1 = x ∧ q ∈ G.nums then some ⟨eK (.int q.2), fun X fa C h => by
          obtain ⟨t, e⟩ := h.mo.nums q hx.2
          rw [hx.1] at e
          exact d_glob (gl_ok h hg) e (v := .int q.2) ⟨t, rfl⟩ (fun _ _ => .int _) (pn_ok hp).1⟩ else none
      | none => (match ht : G.tups.find? (fun q => decide (q.1 = x)) with
        | some q => if hx : q.1 = x then some ⟨eK (.kup q.2), fun X fa C h => by
            obtain ⟨a, e, r⟩ := h.mo.tups q (List.mem_of_find?_eq_some ht)
            rw [hx] at e
            exact d_glob (gl_ok h hg) e (v := .ref a) rfl r (pn_ok hp).1⟩ else none
        | none => (match hf : G.fns.findIdx? (fun q => decide (q.1 = x)) with
          | some i => (match hq : G.fns[i]? with
            | some q => if hx : q.1 = x then some ⟨eK (.fn i), fun X fa C h => by
                obtain ⟨y, ps⟩ := q
                obtain ⟨e, _⟩ := h.mo.fn i y ps hq
                have hx : y = x := hx
                subst hx
                exact d_glob (gl_ok h hg) e (v := .ref (fa.fn i)) rfl (fun _ _ => .fn i) (pn_ok hp).1⟩ else none
            | none => none)
          | none => none))
    else none
  else none
/-- f(a) -/
def stepCall1 (f : Str) (pf : Pos) (a : Expr) (pos : Pos) : Option (CE G c (.Call (.Name f pf) [a] [] pos)) :=
  if hs : notStar a = true then
    if hb : bi G c f "len" = true then (match p.L c a with
      | some ta => some ⟨eFL cLen ta.1, fun X fa C h => by
          obtain ⟨e, k⟩ := bi_ok hb
          subst e
          exact d_callBL c_len (k h).1 (k h).2 PySem.boot_len (ta.2 X fa C h) (by decide) (by decide) (star_ok hs) rfl⟩
      | none => (p.A c [a]).map fun ta => ⟨eF fLen ta.1, fun X fa C h => by
          obtain ⟨e, k⟩ := bi_ok hb
          subst e
          exact d_callB f_len (k h).1 (k h).2 PySem.boot_len (ta.2 X fa C h) (by decide) (by decide) (star_ok hs) rfl⟩)
    else if hb : bi G c f "tuple" = true then (match p.L c a with
      | some ta => some ⟨eTupL ta.1, fun X fa C h => by
          obtain ⟨e, k⟩ := bi_ok hb
          subst e
          exact d_tupL (k h).1 (k h).2 (ta.2 X fa C h) (star_ok hs) rfl⟩
      | none => (p.A c [a]).map fun ta => ⟨eF fTuple ta.1, fun X fa C h => by
          obtain ⟨e, k⟩ := bi_ok hb
          subst e
          exact d_callTy f_tuple (k h).1 (k h).2 (by decide +kernel) (ta.2 X fa C h) (by decide) (by decide) (star_ok hs) rfl⟩)
    else if hb : bi G c f "list" = true then (p.A c [a]).map fun ta => ⟨eF fList ta.1, fun X fa C h => by
          obtain ⟨e, k⟩ := bi_ok hb
          subst e
          exact d_callTy f_list (k h).1 (k h).2 (by decide +kernel) (ta.2 X fa C h) (by decide) (by decide) (star_ok hs) rfl⟩
    else if hb : bi G c f "int" = true then (p.A c [a]).map fun ta => ⟨eF fInt ta.1, fun X fa C h => by
          obtain ⟨e, k⟩ := bi_ok hb
          subst e
          exact d_callTy f_int (k h).1 (k h).2 (by decide +kernel) (ta.2 X fa C h) (by decide) (by decide) (star_ok hs) rfl⟩
    else if hb : bi G c f "bool" = true then (p.A c [a]).map fun ta => ⟨eF fBool ta.1, fun X fa C h => by
          obtain ⟨e, k⟩ := bi_ok hb
          subst e
          exact d_callTy f_bool (k h).1 (k h).2 (by decide +kernel) (ta.2 X fa C h) (by decide) (by decide) (star_ok hs) rfl⟩
    else if hb : bi G c f "abs" = true then (p.A c [a]).map fun ta => ⟨eF fAbs ta.1, fun X fa C h => by
          obtain ⟨e, k⟩ := bi_ok hb
          subst e
          exact d_callB f_abs (k h).1 (k h).2 (by decide +kernel) (ta.2 X fa C h) (by decide) (by decide) (star_ok hs) rfl⟩
    else if hb : bi G c f "sum" = true then (match p.L c a with
      | some ta => some ⟨eFL cSum ta.1, fun X fa C h => by
          obtain ⟨e, k⟩ := bi_ok hb
          subst e
          exact d_callBL (c_sum h.calm) (k h).1 (k h).2 (by decide +kernel) (ta.2 X fa C h) (by decide) (by decide) (star_ok hs) rfl⟩
      | none => (p.A c [a]).map fun ta => ⟨eF (fC cSum false) ta.1, fun X fa C h => by
          obtain ⟨e, k⟩ := bi_ok hb
          subst e
          exact d_callB (fc_l (c_sum h.calm)) (k h).1 (k h).2 (by decide +kernel) (ta.2 X fa C h) (by decide) (by decide) (star_ok hs) rfl⟩)
    else if hb : bi G c f "any" = true then (match p.L c a with
      | some ta => some ⟨eFL cAny ta.1, fun X fa C h => by
          obtain ⟨e, k⟩ := bi_ok hb
          subst e
          exact d_callBL (c_any h.calm) (k h).1 (k h).2 (by decide +kernel) (ta.2 X fa C h) (by decide) (by decide) (star_ok hs) rfl⟩
      | none => none)
    else if hb : bi G c f "all" = true then (match p.L c a with
      | some ta => some ⟨eFL cAll ta.1, fun X fa C h => by
          obtain ⟨e, k⟩ := bi_ok hb
          subst e
          exact d_callBL (c_all h.calm) (k h).1 (k h).2 (by decide +kernel) (ta.2 X fa C h) (by decide) (by decide) (star_ok hs) rfl⟩
      | none => none)
    else if hb : bi G c f "max" = true then (match p.L c a with
      | some ta => some ⟨eFL cMax ta.1, fun X fa C h => by
          obtain ⟨e, k⟩ := bi_ok hb
          subst e
          exact d_callBL (c_max h.calm) (k h).1 (k h).2 (by decide +kernel) (ta.2 X fa C h) (by decide) (by decide) (star_ok hs) rfl⟩
      | none => (p.A c [a]).map fun ta => ⟨eF (fC cMax false) ta.1, fun X fa C h => by
          obtain ⟨e, k⟩ := bi_ok hb
          subst e
          exact d_callB (fc_l (c_max h.calm)) (k h).1 (k h).2 (by decide +kernel) (ta.2 X fa C h) (by decide) (by decide) (star_ok hs) rfl⟩)
    else if hb : bi G c f "min" = true then (match p.L c a with
      | some ta => some ⟨eFL cMin ta.1, fun X fa C h => by
          obtain ⟨e, k⟩ := bi_ok hb
          subst e
          exact d_callBL (c_min h.calm) (k h).1 (k h).2 (by decide +kernel) (ta.2 X fa C h) (by decide) (by decide) (star_ok hs) rfl⟩
      | none => (p.A c [a]).map fun ta => ⟨eF (fC cMin false) ta.1, fun X fa C h => by
          obtain ⟨e, k⟩ := bi_ok hb
          subst e
          exact d_callB (fc_l (c_min h.calm)) (k h).1 (k h).2 (by decide +kernel) (ta.2 X fa C h) (by decide) (by decide) (star_ok hs) rfl⟩)
    else none
  else none
/-- f(a, b), built in -/
def stepCall2 (f : Str) (pf : Pos) (a b : Expr) (pos : Pos) : Option (CE G c (.Call (.Name f pf) [a, b] [] pos)) :=
  if hs : notStar a = true ∧ notStar b = true then
    if hb : bi G c f "isinstance" = true then (match b with
      | .Name x p2 => (match p.E c a with
        | some ta => (match (["int", "bool", "str", "tuple", "list", "dict"] : List String).find? (fun T => decide (x = (Str.ofString T))) with
          | some T => if hT : x = Str.ofString T ∧ glB c.sc x = true ∧ x ∈ G.free ∧ plainName x = true ∧ bootBuiltins x = some (.type T) then some ⟨eIsi T ta.1, fun X fa C h => by
              obtain ⟨e, k⟩ := bi_ok hb
              subst e
              exact d_isi (k h).1 (k h).2 (gl_ok h hT.2.1) (h.mo.free x hT.2.2.1) hT.2.2.2.2 (pn_ok hT.2.2.2.1).2.2 (pn_ok hT.2.2.2.1).1 (ta.2 X fa C h) (star_ok hs.1) rfl rfl⟩ else none
          | none => none)
        | none => none)
      | _ => none)
    else if hb : bi G c f "max" = true then (p.A c [a, b]).map fun ta => ⟨eF fMax2 ta.1, fun X fa C h => by
          obtain ⟨e, k⟩ := bi_ok hb
          subst e
          exact d_callB (f_max2 h.calm) (k h).1 (k h).2 (by decide +kernel) (ta.2 X fa C h) (by decide) (by decide) (star_ok hs.1) (stars_ok (by simp [hs.2]))⟩
    else if hb : bi G c f "min" = true then (p.A c [a, b]).map fun ta => ⟨eF fMin2 ta.1, fun X fa C h => by
          obtain ⟨e, k⟩ := bi_ok hb
          subst e
          exact d_callB (f_min2 h.calm) (k h).1 (k h).2 (by decide +kernel) (ta.2 X fa C h) (by decide) (by decide) (star_ok hs.1) (stars_ok (by simp [hs.2]))⟩
    else if hb : decide ((f, "math.gcd") ∈ G.bfn) = true ∧ glB c.sc f = true ∧ plainName f = true then (p.A c [a, b]).map fun ta => ⟨eF fGcd ta.1, fun X fa C h =>
          d_callBfun f_gcd (gl_ok h hb.2.1) (h.mo.bfn _ (of_decide_eq_true hb.1)) (ta.2 X fa C h) (pn_ok hb.2.2).1 (star_ok hs.1) (stars_ok (by simp [hs.2]))⟩
    else none
  else none
/-- f(..), a def of the text -/
def stepOwn (f : Str) (pf : Pos) (a : Expr) (as : List Expr) (pos : Pos) : Option (CE G c (.Call (.Name f pf) (a :: as) [] pos)) :=
  if hg : glB c.sc f = true ∧ plainName f = true ∧ notStar a = true ∧ as.all notStar = true then
    match hf : G.fns.findIdx? (fun q => decide (q.1 = f)) with
    | some i => (match hq : G.fns[i]? with
      | some q => if hx : q.1 = f then (p.A c (a :: as)).map fun ta => ⟨eCall i ta.1, fun X fa C h => by
          obtain ⟨y, ps⟩ := q
          have hx : y = f := hx
          subst hx
          exact d_call h.xs h.mo hq (gl_ok h hg.1) (ta.2 X fa C h) (pn_ok hg.2.1).1 (star_ok hg.2.2.1) (stars_ok hg.2.2.2)⟩ else none
      | none => none)
    | none => none
  else none
def stepMeth (o : Expr) (m : Str) (apos : Pos) (as : List Expr) (pos : Pos) : Option (CE G c (.Call (.Attribute o m apos) as [] pos)) :=
  if hb : notCall o = true ∧ (apos.endLine == pos.line) = true ∧ as.all notStar = true ∧ as.length < 20 then
    match p.E c o with
    | some to => (match as with
      | [] => if hm : m = "pop" then some ⟨eM "list" mPop to.1 aNil, fun X fa C h => by
            subst hm
            exact d_meth0 PySem.F.plainAttrs_list PySem.F.slot_list_pop PySem.F.type_list_pop m_pop (to.2 X fa C h) (base_ok hb.1) hb.2.1⟩
          else if hm : m = "reverse" then some ⟨eM "list" mReverse to.1 aNil, fun X fa C h => by
            subst hm
            exact d_meth0 PySem.F.plainAttrs_list PySem.F.slot_list_reverse PySem.F.type_list_reverse m_reverse (to.2 X fa C h) (base_ok hb.1) hb.2.1⟩
          else if hm : m = "bit_length" then some ⟨eM "int" mBits to.1 aNil, fun X fa C h => by
            subst hm
            exact d_bits (to.2 X fa C h) (base_ok hb.1) hb.2.1⟩
          else none
      | a :: as => (match p.A c (a :: as) with
        | some ta => if hm : m = "append" then some ⟨eM "list" mAppend to.1 ta.1, fun X fa C h => by
            subst hm
            have hs : notStar a = true ∧ as.all notStar = true := by simpa using hb.2.2.1
            exact d_meth PySem.F.plainAttrs_list PySem.F.slot_list_append PySem.F.type_list_append m_append (to.2 X fa C h) (ta.2 X fa C h) (base_ok hb.1) (few_ok hb.2.2.1 hb.2.2.2) hb.2.1 (star_ok hs.1) (stars_ok hs.2)⟩
          else if hm : m = "extend" then some ⟨eM "list" mExtend to.1 ta.1, fun X fa C h => by
            subst hm
            have hs : notStar a = true ∧ as.all notStar = true := by simpa using hb.2.2.1
            exact d_meth PySem.F.plainAttrs_list PySem.F.slot_list_extend PySem.F.type_list_extend m_extend (to.2 X fa C h) (ta.2 X fa C h) (base_ok hb.1) (few_ok hb.2.2.1 hb.2.2.2) hb.2.1 (star_ok hs.1) (stars_ok hs.2)⟩
          else if hm : m = "pop" then some ⟨eM "list" mPop to.1 ta.1, fun X fa C h => by
            subst hm
            have hs : notStar a = true ∧ as.all notStar = true := by simpa using hb.2.2.1
            exact d_meth PySem.F.plainAttrs_list PySem.F.slot_list_pop PySem.F.type_list_pop m_pop (to.2 X fa C h) (ta.2 X fa C h) (base_ok hb.1) (few_ok hb.2.2.1 hb.2.2.2) hb.2.1 (star_ok hs.1) (stars_ok hs.2)⟩
          else none
        | none => none))
    | none => none
  else none
def stepE (e : Expr) : Option (CE G c e) := match e with
  | .Name x pos => stepName c x pos
  | .Constant (.int i) _ _ => some ⟨eK (.int i), fun X fa C h => d_int⟩
  | .Constant (.bool b) _ _ => some ⟨eK (.bl b), fun X fa C h => d_bl⟩
  | .Constant .none _ _ => some ⟨eK .non, fun X fa C h => d_non⟩
  | .Constant (.str s) _ _ => some ⟨eK (.str s), fun X fa C h => d_str⟩
  | .BinOp a op b pos => (match p.E c a, p.E c b, ho : binD op with
    | some ta, some tb, some o => some ⟨eBin o ta.1 tb.1, fun X fa C h => d_bin (binD_ok ho) (ta.2 X fa C h) (tb.2 X fa C h)⟩
    | _, _, _ => none)
  | .UnaryOp .USub a pos => (p.E c a).map fun ta => ⟨eUn opNeg ta.1, fun X fa C h => d_un o_neg (ta.2 X fa C h)⟩
  | .UnaryOp .Not a pos => (p.E c a).map fun ta => ⟨eNot ta.1, fun X fa C h => d_not (ta.2 X fa C h)⟩
  | .BoolOp op es pos => (p.V c op es).map fun ta => ⟨ta.1, fun X fa C h => ta.2 X fa C pos h⟩
  | .Compare a [op] [b] pos => if hm : notSet b = true then (match p.E c a, p.E c b, ho : cmpD op with
    | some ta, some tb, some o => some ⟨eBin o ta.1 tb.1, fun X fa C h => d_cmp (cmpD_ok h.mo.hu ho) (ta.2 X fa C h) (tb.2 X fa C h) (mark_ok hm)⟩
    | _, _, _ => none) else none
  | .Compare a [op, op'] [b, d] pos => if hm : notSet d = true then (match p.E c a, p.E c b, p.E c d, ho : cmpD op, ho' : cmpD op' with
    | some ta, some tb, some td, some o, some o' => some ⟨eChain o o' ta.1 tb.1 td.1, fun X fa C h => d_chain (cmpD_ok h.mo.hu ho) (cmpD_ok h.mo.hu ho') (ta.2 X fa C h) (tb.2 X fa C h) (td.2 X fa C h) (mark_ok (op := op') hm)⟩
    | _, _, _, _, _ => none) else none
  | .IfExp t a b pos => (match p.T c t, p.E c a, p.E c b with
    | some tt, some ta, some tb => some ⟨eIf tt.1 ta.1 tb.1, fun X fa C h => d_if (tt.2 X fa C h) (ta.2 X fa C h) (tb.2 X fa C h)⟩
    | _, _, _ => none)
  | .Tuple es _ pos => (p.A c es).map fun ta => ⟨eTup ta.1, fun X fa C h => d_tup (ta.2 X fa C h)⟩
  | .List es pos => (p.A c es).map fun ta => ⟨eLst ta.1, fun X fa C h => d_lst (ta.2 X fa C h)⟩
  | .Subscript a (.Slice lo hi none p2) pos => (match p.E c a, p.O c lo, p.O c hi with
    | some ta, some tl, some th => some ⟨eCut ta.1 tl.1 th.1, fun X fa C h => d_cut (ta.2 X fa C h) (tl.2 X fa C h) (th.2 X fa C h)⟩
    | _, _, _ => none)
  | .Subscript a b pos => if hb : notSlice b = true then (match p.E c a, p.E c b with
    | some ta, some tb => some ⟨eBin opIx ta.1 tb.1, fun X fa C h => (pe_ix (i_ix (by have := h.mo.hu; omega)) (ta.2 X fa C h) (tb.2 X fa C h) (ix_ok hb)).imp fun _ _ _ q => two q⟩
    | _, _ => none) else none
  | .Call (.Name f pf) [a] [] pos => (match stepOwn p c f pf a [] pos with
    | some t => some t
    | none => stepCall1 p c f pf a pos)
  | .Call (.Name f pf) [a, b] [] pos => (match stepOwn p c f pf a [b] pos with
    | some t => some t
    | none => stepCall2 p c f pf a b pos)
  | .Call (.Name f pf) (a :: as) [] pos => stepOwn p c f pf a as pos
  | .Call (.Attribute o m apos) as [] pos => stepMeth p c o m apos as pos
  | .ListComp elt gs scope pos => (p.L c (.ListComp elt gs scope pos)).map fun ta => ⟨eNew ta.1, fun X fa C h => d_new (ta.2 X fa C h)⟩
  | _ => none
def stepT (e : Expr) : Option (CT G c e) := match e with
  | .BoolOp op es pos => (p.W c op es).map fun ta => ⟨ta.1, fun X fa C h => (ta.2 X fa C pos h).pt⟩
  | .UnaryOp .Not a pos => (p.T c a).map fun ta => ⟨tNot ta.1, fun X fa C h => t_not (ta.2 X fa C h)⟩
  | .Compare a [op] [b] pos => if hm : notSet b = true then (match p.E c a, p.E c b, ho : cmpD op with
    | some ta, some tb, some o => some ⟨tOf (eBin o ta.1 tb.1), fun X fa C h => t_cmp (cmpD_ok h.mo.hu ho) (ta.2 X fa C h) (tb.2 X fa C h) (mark_ok hm)⟩
    | _, _, _ => none) else none
  | .Compare a [op, op'] [b, d] pos => if hm : notSet d = true then (match p.E c a, p.E c b, p.E c d, ho : cmpD op, ho' : cmpD op' with
    | some ta, some tb, some td, some o, some o' => some ⟨tOf (eChain o o' ta.1 tb.1 td.1), fun X fa C h => t_chain (cmpD_ok h.mo.hu ho) (cmpD_ok h.mo.hu ho') (ta.2 X fa C h) (tb.2 X fa C h) (td.2 X fa C h) (mark_ok (op := op') hm)⟩
    | _, _, _, _, _ => none) else none
  | e => if hv : byValue e = true then (p.E c e).map fun ta => ⟨tTru ta.1, fun X fa C h => t_tru (ta.2 X fa C h) (true_ok hv)⟩ else none
def stepW (op : BoolOp) (es : List Expr) : Option (CW G c op es) := match op, es with
  | .And, [a] => (p.T c a).map fun ta => ⟨ta.1, fun X fa C pos h => t_and1 (ta.2 X fa C h)⟩
  | .Or, [a] => (p.T c a).map fun ta => ⟨ta.1, fun X fa C pos h => t_or1 (ta.2 X fa C h)⟩
  | .And, a :: b :: es => (match p.T c a, p.W c .And (b :: es) with
    | some ta, some tb => some ⟨tAnd ta.1 tb.1, fun X fa C pos h => t_and (ta.2 X fa C h) (tb.2 X fa C pos h)⟩
    | _, _ => none)
  | .Or, a :: b :: es => (match p.T c a, p.W c .Or (b :: es) with
    | some ta, some tb => some ⟨tOr ta.1 tb.1, fun X fa C pos h => t_or (ta.2 X fa C h) (tb.2 X fa C pos h)⟩
    | _, _ => none)
  | _, _ => none
def stepV (op : BoolOp) (es : List Expr) : Option (CV G c op es) := match op, es with
  | op, [a] => (p.E c a).map fun ta => ⟨ta.1, fun X fa C pos h => d_one (ta.2 X fa C h)⟩
  | .And, a :: b :: es => (match p.E c a, p.V c .And (b :: es) with
    | some ta, some tb => some ⟨eAnd ta.1 tb.1, fun X fa C pos h => d_and (ta.2 X fa C h) (tb.2 X fa C pos h)⟩
    | _, _ => none)
  | .Or, a :: b :: es => (match p.E c a, p.V c .Or (b :: es) with
    | some ta, some tb => some ⟨eOr ta.1 tb.1, fun X fa C pos h => d_or (ta.2 X fa C h) (tb.2 X fa C pos h)⟩
    | _, _ => none)
  | _, _ => none
def stepA (es : List Expr) : Option (CA G c es) := match es with
  | [] => some ⟨aNil, fun X fa C h => a_nil⟩
  | e :: es => if hs : notStar e = true then (match p.E c e, p.A c es with
    | some te, some ta => some ⟨aCons te.1 ta.1, fun X fa C h => a_cons (te.2 X fa C h) (ta.2 X fa C h) (star_ok hs)⟩
    | _, _ => none) else none
def stepO (e : Option Expr) : Option (CO G c e) := match e with
  | none => some ⟨oNone, fun X fa C h => o_none⟩
  | some e => (p.E c e).map fun ta => ⟨oSome ta.1, fun X fa C h => o_some (ta.2 X fa C h)⟩
def stepTs (es : List Expr) : Option (CTs G c es) := match es with
  | [] => some ⟨tYesD, fun X fa C h => ts_nil⟩
  | [e] => (p.T c e).map fun ta => ⟨ta.1, fun X fa C h => ts_one (ta.2 X fa C h)⟩
  | _ => none
/-- the block's own names with their places -/
def ownOf (N : List Str) (scope : Scope) : List (Str × Nat) := scope.names.filterMap fun y => match y.2 with
  | .local => (N.findIdx? (fun z => decide (z = y.1))).map fun i => (y.1, i)
  | .cell => (N.findIdx? (fun z => decide (z = y.1))).map fun i => (y.1, i)
  | _ => none
def stepL (e : Expr) : Option (CL G c e) := match e with
  | .ListComp elt [⟨tg, iter, ifs, 0⟩] scope pos =>
    if hb : blkC c.N c.sc scope (ownOf c.N scope) = true ∧ notSet iter = true then
      (match p.I c tg iter, p.Gt (blkCp c scope) tg, stepTs p (blkCp c scope) ifs, p.E (blkCp c scope) elt with
      | some ti, some tg, some tt, some te => if hw : (tg.ws.all fun i => decide (i ∈ (ownOf c.N scope).map (·.2))) = true then
          some ⟨lcomp ti.1 tg.g tt.1 te.1 ((ownOf c.N scope).map (·.2)), fun X fa C h =>
            l_comp h.calm h.nd (ti.2 X fa C h) (blkOk_by (by rw [h.N, h.sc]; exact hb.1)) (fun i hi => of_decide_eq_true (List.all_eq_true.mp hw i hi)) (fun s H Ca cl fp => tg.ok _ fa _ (h.blk s H Ca cl fp)) (fun s H Ca cl fp => tt.2 _ fa _ (h.blk s H Ca cl fp))
              (fun s H Ca cl fp => te.2 _ fa _ (h.blk s H Ca cl fp)) (fold_ok hb.2)⟩ else none
      | _, _, _, _ => none)
    else none
  | _ => none
def stepI (tg e : Expr) : Option (CI G c tg e) := match e with
  | .Call (.Name f pf) [a] [] pos => if hb : bi G c f "range" = true ∧ notStar a = true then (p.E c a).map fun ta => ⟨iRng1 ta.1, fun X fa C h => by
        obtain ⟨e, k⟩ := bi_ok hb.1
        subst e
        exact i_rng1 (k h).1 (k h).2 (ta.2 X fa C h) (star_ok hb.2)⟩
      else (p.E c (.Call (.Name f pf) [a] [] pos)).map fun ta => ⟨iSeq ta.1, fun X fa C h => i_seq (ta.2 X fa C h)⟩
  | .Call (.Name f pf) [a, b] [] pos => if hb : bi G c f "range" = true ∧ notStar a = true ∧ notStar b = true then (match p.E c a, p.E c b with
      | some ta, some tb => some ⟨iRng2 ta.1 tb.1, fun X fa C h => by
        obtain ⟨e, k⟩ := bi_ok hb.1
        subst e
        exact i_rng2 (k h).1 (k h).2 (ta.2 X fa C h) (tb.2 X fa C h) (by rw [star_ok hb.2.1, star_ok hb.2.2]; rfl) (star_ok hb.2.2)⟩
      | _, _ => none)
      else (p.E c (.Call (.Name f pf) [a, b] [] pos)).map fun ta => ⟨iSeq ta.1, fun X fa C h => i_seq (ta.2 X fa C h)⟩
  | .Call (.Name f pf) [a, b, d] [] pos => if hb : bi G c f "range" = true ∧ notStar a = true ∧ notStar b = true ∧ notStar d = true then (match p.E c a, p.E c b, p.E c d with
      | some ta, some tb, some td => some ⟨iRng3 ta.1 tb.1 td.1, fun X fa C h => by
        obtain ⟨e, k⟩ := bi_ok hb.1
        subst e
        exact i_rng3 (k h).1 (k h).2 (ta.2 X fa C h) (tb.2 X fa C h) (td.2 X fa C h) (star_ok hb.2.1) (star_ok hb.2.2.1) (star_ok hb.2.2.2) (stars_ok (by simp [hb.2.2]))⟩
      | _, _, _ => none)
      else (p.E c (.Call (.Name f pf) [a, b, d] [] pos)).map fun ta => ⟨iSeq ta.1, fun X fa C h => i_seq (ta.2 X fa C h)⟩
  | e => (p.E c e).map fun ta => ⟨iSeq ta.1, fun X fa C h => i_seq (ta.2 X fa C h)⟩
def stepG (e : Expr) : Option (CG G c e) := match e with
  | .Name x pos => if hl : locB c x = true then
      match hi : c.N.findIdx? (fun y => decide (y = x)) with
      | some i => if hN : c.N[i]? = some x then some ⟨gName i, [i], fun X fa C h => g_name h.nd (by rw [h.N]; exact hN) (loc_ok h hl).1 (loc_ok h hl).2⟩ else none
      | none => none
      else none
  | .Tuple es k pos => if hs : es.all notStar = true then (p.Gs c es).map fun gs => ⟨gTup es.length gs.g, gs.ws, fun X fa C h => g_tup h.calm (gs.ok X fa C h) (asg_len hs) (asg_idx hs)⟩ else none
  | .Subscript o i pos => if hb : notSlice i = true then (match p.E c o, p.E c i with
    | some to, some ti => some ⟨gSub to.1 ti.1, [], fun X fa C h => g_sub (by have := h.mo.hu; omega) (to.2 X fa C h) (ti.2 X fa C h) (fun v => asg_sub hb v)⟩
    | _, _ => none) else none
  | _ => none
where
  asg_len {env : PySem.Env} : ∀ {es : List Expr}, es.all notStar = true → (assignEach es env).length = es.length
    | [], _ => rfl
    | e :: es, h => by
      rw [List.all_cons, Bool.and_eq_true] at h
      have : assignEach (e :: es) env = (false, assign e env) :: assignEach es env := by
        obtain ⟨h1, _⟩ := h
        cases e <;> first | rfl | cases h1
      rw [this]
      exact congrArg (· + 1) (asg_len h.2)
  asg_idx {env : PySem.Env} : ∀ {es : List Expr}, es.all notStar = true → (assignEach es env).findIdx? (·.1) = none
    | [], _ => rfl
    | e :: es, h => by
      rw [List.all_cons, Bool.and_eq_true] at h
      have : assignEach (e :: es) env = (false, assign e env) :: assignEach es env := by
        obtain ⟨h1, _⟩ := h
        cases e <;> first | rfl | cases h1
      rw [this, List.findIdx?_cons, asg_idx h.2]
      rfl
  asg_sub {o i : Expr} {pos : Pos} {env : PySem.Env} (h : notSlice i = true) (v : Value) : assign (.Subscript o i pos) env v = (do
      let ov ← holding [v] (eval o env)
      let iv ← holding [v, ov] (eval i env)
      standAt pos
      holding [v, ov, iv] (setItem ov iv v)
      release [v, ov, iv] []) := by
    cases i <;> first | rfl | cases h
def stepGs (es : List Expr) : Option (CGs G c es) := match es with
  | [] => some ⟨gNil, [], fun X fa C h => gs_nil⟩
  | e :: es => if hs : notStar e = true then (match p.Gt c e, p.Gs c es with
    | some g, some gs => some ⟨gCons g.g gs.g, g.ws ++ gs.ws, fun X fa C h => gs_cons (g.ok X fa C h) (gs.ok X fa C h) (by cases e <;> first | rfl | cases hs)⟩
    | _, _ => none) else none
end
end DL
/-! The data layer, part 9: statements, compiled. -/
namespace DL
open PySem PySem.Spec PyProof.Rows L2

/-! ### x op= e -/
def iaAdd : DOp := fun d e M P => match d, e with
  | .int i, .int j => P (.int (i + j)) M
  | .str a, .str b => a.length + b.length ≤ sizeLine ∧ P (.str (a ++ b)) M
  | .ref m, .ref n => (match M[m]?, M[n]? with
    | some (.lst xs), some (.lst ys) => xs.length + ys.length ≤ sizeLine ∧ P (.ref m) (M.set m (.lst (xs ++ ys)))
    | _, _ => False)
  | _, _ => False
def iaMul : DOp := fun d e M P => match d, e with
  | .int i, .int j => IntMulOk i j ∧ P (.int (i * j)) M
  | _, _ => False
section
variable {X : Cx} {fa : Org}
theorem io_add : OpR X (inplaceOp .Add) (LO X.K fa iaAdd) := ((iop_add.or iop_add_str).or iop_ext).imp fun x y H Q ⟨M, α, d, e, P, st, rx, ry, h, an⟩ => by
  unfold iaAdd at h
  split at h
  · cases rx; cases ry; exact .inl (.inl ⟨_, _, rfl, rfl, an.here st (.int _) h⟩)
  · cases rx; cases ry; exact .inl (.inr ⟨_, _, rfl, rfl, h.1, an.here st (.str _) h.2⟩)
  · cases rx with
    | @ref m a ea =>
      cases ry with
      | @ref n b eb =>
        split at h
        · rename_i xs ys q1 q2
          obtain ⟨vs, hv, l, r⟩ := cell_l st ea q1
          obtain ⟨ws, hw, l2, r2⟩ := cell_l st eb q2
          have hl : vs.length + ws.length ≤ sizeLine := by rw [r.length, r2.length]; exact h.1
          exact .inr ⟨a, b, vs, ws, rfl, rfl, hv, hw, hl, an.wr st ea hv (by rw [List.length_append]; exact hl) (r.append r2) (.ref ea) h.2⟩
        · exact h.elim
  · exact h.elim
theorem io_sub : OpR X (inplaceOp .Sub) (LO X.K fa opSub) := iop_sub.imp fun x y H Q ⟨M, α, d, e, P, st, rx, ry, h, an⟩ => by
  unfold opSub at h
  split at h
  · cases rx; cases ry; exact ⟨_, _, rfl, rfl, an.here st (.int _) h⟩
  · exact h.elim
theorem iop_mulG : OpR X (inplaceOp .Mult) (rI IntMulOk fun i j => .int (i * j)) := opI fun _ _ _ _ _ _ _ hc q => imul_int q hc
theorem io_mul : OpR X (inplaceOp .Mult) (LO X.K fa iaMul) := iop_mulG.imp fun x y H Q ⟨M, α, d, e, P, st, rx, ry, h, an⟩ => by
  unfold iaMul at h
  split at h
  · cases rx; cases ry; exact ⟨_, _, rfl, rfl, h.1, an.here st (.int _) h.2⟩
  · exact h.elim
theorem io_div : OpR X (inplaceOp .FloorDiv) (LO X.K fa opDiv) := iop_fdivW.imp fun x y H Q ⟨M, α, d, e, P, st, rx, ry, h, an⟩ => by
  unfold opDiv at h
  split at h
  · cases rx; cases ry; exact ⟨_, _, rfl, rfl, h.1, an.here st (.int _) h.2⟩
  · exact h.elim
theorem io_mod : OpR X (inplaceOp .Mod) (LO X.K fa opMod) := iop_mod.imp fun x y H Q ⟨M, α, d, e, P, st, rx, ry, h, an⟩ => by
  unfold opMod at h
  split at h
  · cases rx; cases ry; exact ⟨_, _, rfl, rfl, h.1, an.here st (.int _) h.2⟩
  · exact h.elim
theorem io_shr : OpR X (inplaceOp .RShift) (LO X.K fa opShr) := iop_shr.imp fun x y H Q ⟨M, α, d, e, P, st, rx, ry, h, an⟩ => by
  unfold opShr at h
  split at h
  · cases rx; cases ry; exact ⟨_, _, rfl, rfl, h.1, an.here st (.int _) h.2⟩
  · exact h.elim
theorem io_shl : OpR X (inplaceOp .LShift) (LO X.K fa opShl) := iop_shl.imp fun x y H Q ⟨M, α, d, e, P, st, rx, ry, h, an⟩ => by
  unfold opShl at h
  split at h
  · cases rx; cases ry; exact ⟨_, _, rfl, rfl, h.1, an.here st (.int _) h.2⟩
  · exact h.elim
theorem io_and : OpR X (inplaceOp .BitAnd) (LO X.K fa opAnd) := iop_and.imp fun x y H Q ⟨M, α, d, e, P, st, rx, ry, h, an⟩ => by
  unfold opAnd at h
  split at h
  · cases rx; cases ry; exact ⟨_, _, rfl, rfl, an.here st (.int _) h⟩
  · exact h.elim
theorem io_or : OpR X (inplaceOp .BitOr) (LO X.K fa opOr) := iop_or.imp fun x y H Q ⟨M, α, d, e, P, st, rx, ry, h, an⟩ => by
  unfold opOr at h
  split at h
  · cases rx; cases ry; exact ⟨_, _, rfl, rfl, an.here st (.int _) h⟩
  · exact h.elim
theorem io_xor : OpR X (inplaceOp .BitXor) (LO X.K fa opXor) := iop_xor.imp fun x y H Q ⟨M, α, d, e, P, st, rx, ry, h, an⟩ => by
  unfold opXor at h
  split at h
  · cases rx; cases ry; exact ⟨_, _, rfl, rfl, an.here st (.int _) h⟩
  · exact h.elim
end
def augD : Operator → Option DOp
  | .Add => some iaAdd
  | .Sub => some opSub
  | .Mult => some iaMul
  | .FloorDiv => some opDiv
  | .Mod => some opMod
  | .LShift => some opShl
  | .RShift => some opShr
  | .BitAnd => some opAnd
  | .BitOr => some opOr
  | .BitXor => some opXor
  | _ => none
theorem augD_ok {X : Cx} {fa : Org} {op : Operator} {o : DOp} (h : augD op = some o) : OpR X (inplaceOp op) (LO X.K fa o) := by
  cases op <;> first | (cases h; done) | skip
  all_goals
    cases h
    first | exact io_add | exact io_sub | exact io_mul | exact io_div | exact io_mod | exact io_shl | exact io_shr | exact io_and | exact io_or | exact io_xor

/-! ### o[i] op= e, o a list -/
def opGetL : D → D → Mem → Po → Prop := fun x y M P => match x, y with
  | .ref n, .int i => (match M[n]? with
    | some (.lst xs) => (match atI xs i with
      | some d => P d M
      | none => False)
    | _ => False)
  | _, _ => False
def sAugS (o i : DE) (e : DE) (op : DOp) : DS := fun C E ρ M => o C ρ M fun x M1 => i C ρ M1 fun y M2 => opGetL x y M2 fun z M3 => e C ρ M3 fun w M4 => op z w M4 fun u M5 => opSet x y u M5 fun M6 => E.nx ρ M6
section
variable {X : Cx} {fa : Org} {C : Ctx}
theorem get_list : PGet X (LO X.K fa opGetL) := by
  intro pins s σ H x y v u Q I rx ry ⟨M, α, d, e, P, st, rd, re, h, an⟩
  unfold opGetL at h
  split at h
  · rename_i n i
    split at h
    · rename_i xs hM
      split at h
      · rename_i z hz
        cases rd with
        | @ref _ a ea =>
          cases re
          cases rx
          obtain ⟨t, rfl⟩ := ry
          obtain ⟨vs, hv, l, r⟩ := cell_l st ea hM
          obtain ⟨j, h1, h2, h3, h4, h5⟩ := atI_get hz
          obtain ⟨z', hz', rz⟩ := r.get h2
          obtain ⟨its, ri, pl, hzz⟩ := I.list (show SqL X.K H a vs from .inl (.inl hv))
          obtain ⟨w, ew, rw'⟩ := ri.get hz'
          have hl := ri.length
          have hl2 := r.length
          have hn := line63
          have fin : EP X pins σ Q w s := ⟨z', H, I, rw', an.here st rz h⟩
          by_cases h0 : 0 ≤ i
          · have hj : i.toNat = j := by
              rw [seqIndex_of h0 h5] at h1
              exact Option.some.inj h1
            exact wpAny_getItem_list pl.isList h0 (by omega) (by rw [hj]; simpa using ew) fin
          · have hj : (i + (its.toArray.size : Int)).toNat = j := by
              rw [seqIndex_neg (by omega) h4] at h1
              rw [List.size_toArray, ← hl, hl2]
              exact Option.some.inj h1
            exact wpAny_getItem_list_neg pl.isList (by omega) (by rw [List.size_toArray] <;> omega) (by omega) (by rw [hj]; simpa using ew) fin
      · exact h.elim
    · exact h.elim
  · exact h.elim
theorem s_augS {o i e : Expr} {to ti te : DE} {op : Operator} {d : DOp} {tpos pos : Pos} (hu : X.A.units + 1 < cLine) (ho : PE X o (LE X.K fa C to)) (hi : PE X i (LE X.K fa C ti)) (he : PE X e (LE X.K fa C te)) (hp : OpR X (inplaceOp op) (LO X.K fa d))
    (ha : ∀ ov iv new, augStore i ov iv new = (do holding [new, ov, iv] (setItem ov iv new); release [new, ov, iv] []; pure .next)) : PS X (.AugAssign (.Subscript o i tpos) op e pos) (LS X.K fa C (sAugS to ti te d)) :=
  (ps_augS ho hi (get_list (fa := fa)) he hp (p_set (fa := fa) hu) ha).imp fun D σ H ⟨ρ, M, α, E, er, sr, h, en⟩ =>
    ⟨ρ, M, α, _, er, sr, h, fun x dx H1 α1 M1 e1 s1 r1 p1 => ⟨ρ, M1, α1, _, er.mono e1, s1, p1, fun y dy H2 α2 M2 e2 s2 r2 p2 =>
      ⟨M2, α2, dx, dy, _, s2, r1.mono e2, r2, p2, fun z dz H3 α3 M3 e3 s3 r3 p3 => ⟨ρ, M3, α3, _, er.mono ((e1.trans e2).trans e3), s3, p3, fun w dw H4 α4 M4 e4 s4 r4 p4 =>
        ⟨M4, α4, dz, dw, _, s4, r3.mono e4, r4, p4, fun u du H5 α5 M5 e5 s5 r5 p5 => ⟨M5, α5, dx, dy, du, _, s5, r1.mono (((e2.trans e3).trans e4).trans e5), r2.mono ((e3.trans e4).trans e5), r5, p5, fun H6 M6 e6 s6 p6 =>
          en.nx σ ρ H6 α5 M6 (((((e1.trans e2).trans e3).trans e4).trans e5).trans e6) (er.mono (((((e1.trans e2).trans e3).trans e4).trans e5).trans e6)) s6 p6⟩⟩⟩⟩⟩⟩
end

/-! ### side conditions of stores -/
theorem sw_false {elt : Expr} {gs : List Comprehension} {scope : Scope} {pos py : Pos} {y : Str} {l : Nat} {env : PySem.Env} (hy : (env.scope.names.lookup y == some .local) = false) : swapsWith (.ListComp elt gs scope pos) (some (.Name y py)) l env = pure false := by
  have ky : (env.kindOf y == some .local) = false := hy
  unfold swapsWith
  simp only [ky, Bool.and_false, Bool.false_and]
def isTup : Expr → Bool
  | .Tuple .. => true
  | _ => false
def isName : Expr → Bool
  | .Name .. => true
  | _ => false
theorem stores_none {tg e : Expr} {env : PySem.Env} (h : isTup e = false) : swappedStores [tg] e env = pure none := by
  cases e <;> first | cases h | skip
  all_goals
    cases tg <;> rfl
theorem stores_none2 {tg e : Expr} {env : PySem.Env} (h : isTup tg = false ∧ (match tg with | .List .. => true | _ => false) = false) : swappedStores [tg] e env = pure none := by
  cases tg <;> first | (cases h.1; done) | (cases h.2; done) | (cases e <;> rfl)
/-- the names among the targets that may be swapped -/
def swNames (sc : Scope) (line : Nat) (ts : List Expr) : List Str := ts.filterMap fun
  | .Name id pos => if sc.names.lookup id == some .local && pos.line == line then some id else none
  | _ => none
def swSafe (sc : Scope) (ts vs : List Expr) : Bool := vs.length != ts.length || !(ts.length == 2 || ts.length == 3) || (vs.all notStar && (swNames sc ((ts.head?.map (·.pos.line)).getD 0) ts).length != ts.length)
theorem any_star {vs : List Expr} (h : vs.all notStar = true) : (vs.any fun | .Starred .. => true | _ => false) = false := by
  induction vs with
  | nil => rfl
  | cons v vs ih =>
    rw [List.all_cons, Bool.and_eq_true] at h
    rw [List.any_cons, ih h.2]
    have := h.1
    cases v <;> first | rfl | cases this
theorem stores_none3 {ts vs : List Expr} {k k2} {pt pt2 : Pos} {env : PySem.Env} (h : swSafe env.scope ts vs = true) : swappedStores [.Tuple ts k pt] (.Tuple vs k2 pt2) env = pure none := by
  unfold swappedStores
  simp only [pure_bind]
  by_cases h1 : (!(ts.length == 2 || ts.length == 3) || vs.length != ts.length || env.blockKind != .function) = true
  · exact if_pos h1
  · rw [if_neg h1]
    have h1 : (!(ts.length == 2 || ts.length == 3)) = false ∧ (vs.length != ts.length) = false := by
      simp only [Bool.or_eq_true, not_or, Bool.not_eq_true] at h1
      exact h1.1
    unfold swSafe at h
    rw [h1.2, h1.1, Bool.false_or, Bool.false_or, Bool.and_eq_true] at h
    refine (if_neg ?_).trans ?_
    · exact fun z => Bool.false_ne_true ((any_star h.1).symm.trans z)
    have h2 : ((swNames env.scope ((ts.head?.map (·.pos.line)).getD 0) ts).length != ts.length) = true := h.2
    have h3 : ∀ b : Bool, ((swNames env.scope ((ts.head?.map (·.pos.line)).getD 0) ts).length != ts.length || b) = true := fun b => by rw [h2]; rfl
    exact if_pos (h3 _)
theorem stores_two {x y : Str} {px py pt pt2 : Pos} {a b : Expr} {k k2} {env : PySem.Env} (hk : env.scope.kind = .function) (hx : env.scope.names.lookup x = some .local) (hy : env.scope.names.lookup y = some .local) (hl : (py.line == px.line) = true) (hne : (y == x) = false)
    (ha : notStar a = true ∧ notStar b = true) (h1 : [a, b].all (foldedForSure 8) = false) (h2 : [a, b].all (constantsAlone 8) = false) : swappedStores [.Tuple [.Name x px, .Name y py] k pt] (.Tuple [a, b] k2 pt2) env = pure (some [x, y]) := by
  have kx : env.kindOf x = some .local := hx
  have ky : env.kindOf y = some .local := hy
  have hb : env.blockKind = .function := by unfold Env.blockKind; rw [hk]; rfl
  have hl2 : (py.line == (Expr.Name x px).pos.line) = true := hl
  have hl3 : (px.line == (Expr.Name x px).pos.line) = true := by show (px.line == px.line) = true; exact beq_self_eq_true _
  have ed : [x, y].eraseDups = [x, y] := by simp [List.eraseDups_cons, hne]
  unfold swappedStores
  simp only [pure_bind]
  rw [if_neg (by rw [hb]; exact Bool.false_ne_true)]
  refine (if_neg ?_).trans ?_
  · exact fun z => Bool.false_ne_true ((any_star (vs := [a, b]) (by simp [ha.1, ha.2])).symm.trans z)
  simp only [List.filterMap_cons, List.filterMap_nil, kx, ky, List.head?_cons, Option.map_some, Option.getD_some, hl2, hl3, beq_self_eq_true, Bool.true_and, if_true, ed]
  rw [if_neg (by exact Bool.false_ne_true), if_neg (by rw [h1]; exact Bool.false_ne_true), if_neg (by rw [h2]; exact Bool.false_ne_true)]

/-! ### the steps -/
section
variable {G : Glb} (p : Comp G) (c : Cp)
def stepSetLc (y : Str) (py : Pos) (elt tg iter : Expr) (ifs : List Expr) (scope : Scope) (pos spos : Pos) : Option (CS G c (.Assign [.Name y py] (.ListComp elt [⟨tg, iter, ifs, 0⟩] scope pos) spos)) :=
  if hb : c.sc.kind = .function ∧ c.sc.names.lookup y = some .local ∧ (py.line == pos.line) = true ∧ (scope.names.any fun (n, k) => n == y && (k == .local || k == .cell)) = false ∧ blkC c.N c.sc scope (ownOf c.N scope) = true ∧ notSet iter = true then
    (match hi : c.N.findIdx? (fun z => decide (z = y)) with
    | some i => if hN : c.N[i]? = some y then
        (match p.I c tg iter, p.Gt (blkCp c scope) tg, stepTs p (blkCp c scope) ifs, p.E (blkCp c scope) elt with
        | some ti, some tg, some tt, some te => if hw : (tg.ws.all fun i => decide (i ∈ (ownOf c.N scope).map (·.2))) = true then
            some ⟨sAsg (eNew (lcomp ti.1 tg.g tt.1 te.1 ((ownOf c.N scope).map (·.2)))) (gName i), fun X fa C h =>
              s_setLc h.calm h.nd (by rw [h.N]; exact hN) (by rw [h.sc]; exact hb.2.1) (sw_true (by rw [h.sc]; exact hb.1) (by rw [h.sc]; exact hb.2.1) hb.2.2.1 hb.2.2.2.1) (ti.2 X fa C h.toHy) (blkOk_by (by rw [h.N, h.sc]; exact hb.2.2.2.2.1)) (fun i hi => of_decide_eq_true (List.all_eq_true.mp hw i hi))
                (fun s H Ca cl fp => tg.ok _ fa _ (h.toHy.blk s H Ca cl fp)) (fun s H Ca cl fp => tt.2 _ fa _ (h.toHy.blk s H Ca cl fp)) (fun s H Ca cl fp => te.2 _ fa _ (h.toHy.blk s H Ca cl fp)) (fold_ok hb.2.2.2.2.2)⟩ else none
        | _, _, _, _ => none) else none
    | none => none)
  else none
def stepSetLf (y : Str) (py : Pos) (elt : Expr) (gs : List Comprehension) (scope : Scope) (pos spos : Pos) : Option (CS G c (.Assign [.Name y py] (.ListComp elt gs scope pos) spos)) :=
  if hb : (c.sc.names.lookup y == some .local) = false ∧ locB c y = true then
    (match hi : c.N.findIdx? (fun z => decide (z = y)) with
    | some i => if hN : c.N[i]? = some y then
        (match p.L c (.ListComp elt gs scope pos) with
        | some tl => some ⟨sAsg (eNew tl.1) (gName i), fun X fa C h => s_set h.nd (by rw [h.N]; exact hN) (loc_ok h.toHy hb.2).1 (d_new (tl.2 X fa C h.toHy)) (sw_false (by rw [h.sc]; exact hb.1)) (loc_ok h.toHy hb.2).2⟩
        | none => none) else none
    | none => none)
  else none
def stepPar (x y : Str) (px py pt pt2 pos : Pos) (a b : Expr) (k k2) : Option (CS G c (.Assign [.Tuple [.Name x px, .Name y py] k pt] (.Tuple [a, b] k2 pt2) pos)) :=
  if hb : c.sc.kind = .function ∧ c.sc.names.lookup x = some .local ∧ c.sc.names.lookup y = some .local ∧ (py.line == px.line) = true ∧ (y == x) = false ∧ (notStar a = true ∧ notStar b = true) ∧ [a, b].all (foldedForSure 8) = false ∧ [a, b].all (constantsAlone 8) = false then
    (match hi : c.N.findIdx? (fun z => decide (z = x)), hj : c.N.findIdx? (fun z => decide (z = y)) with
    | some i, some j => if hN : c.N[i]? = some x ∧ c.N[j]? = some y ∧ i ≠ j then
        (match p.A c [a, b] with
        | some ta => some ⟨sPar i j ta.1, fun X fa C h => s_par h.calm h.nd (by rw [h.N]; exact hN.1) (by rw [h.N]; exact hN.2.1) hN.2.2 (by rw [h.sc]; exact hb.2.1) (by rw [h.sc]; exact hb.2.2.1) (ta.2 X fa C h.toHy)
            (stores_two (by rw [h.sc]; exact hb.1) (by rw [h.sc]; exact hb.2.1) (by rw [h.sc]; exact hb.2.2.1) hb.2.2.2.1 hb.2.2.2.2.1 hb.2.2.2.2.2.1 hb.2.2.2.2.2.2.1 hb.2.2.2.2.2.2.2) rfl⟩
        | none => none) else none
    | _, _ => none)
  else none
def notStarLike : Expr → Bool
  | .Starred .. => false
  | .List .. => false
  | _ => true
theorem asg_one {tg : Expr} {env : PySem.Env} (h : notStar tg = true) : (assignEach [tg] env).map (·.2) = [assign tg env] := by
  cases tg <;> first | rfl | cases h
/-- a store by its target -/
def stepAsg (tg e : Expr) (pos : Pos) : Option (CS G c (.Assign [tg] e pos)) :=
  if hb : notComp e = true ∧ notStarLike tg = true then
    if hq : isTup e = false ∨ isTup tg = false then
      (match p.E c e, p.Gt c tg with
      | some te, some g => some ⟨sAsg te.1 g.g, fun X fa C h => s_asg (te.2 X fa C h.toHy) (g.ok X fa C h.toHy) (sole_ok hb.1) (hq.elim stores_none fun q => stores_none2 ⟨q, by revert hb; cases tg <;> intro hb <;> first | rfl | cases hb.2⟩)
          (asg_one (by revert hb; cases tg <;> intro hb <;> first | rfl | cases hb.2))⟩
      | _, _ => none)
    else (match tg, e with
      | .Tuple ts k pt, .Tuple vs k2 pt2 => if hs : swSafe c.sc ts vs = true then
          (match p.E c (.Tuple vs k2 pt2), p.Gt c (.Tuple ts k pt) with
          | some te, some g => some ⟨sAsg te.1 g.g, fun X fa C h => s_asg (te.2 X fa C h.toHy) (g.ok X fa C h.toHy) (sole_ok rfl) (stores_none3 (by rw [h.sc]; exact hs)) (asg_one rfl)⟩
          | _, _ => none) else none
      | _, _ => none)
  else none
theorem aug_store {i : Expr} (h : notSlice i = true) (ov iv new : Value) : augStore i ov iv new = (do holding [new, ov, iv] (setItem ov iv new); release [new, ov, iv] []; pure .next) := by
  cases i <;> first | rfl | cases h
def stepS (s : Stmt) : Option (CS G c s) := match s with
  | .Pass pos => some ⟨sNext, fun X fa C h => s_pass⟩
  | .Break pos => some ⟨sBreak, fun X fa C h => s_break⟩
  | .Continue pos => some ⟨sCont, fun X fa C h => s_cont⟩
  | .Expr (.Constant (.str x) j pos) pos' => some ⟨sNext, fun X fa C h => s_doc⟩
  | .Expr e pos => if hn : notComp e = true then (p.E c e).map fun te => ⟨sDrop te.1, fun X fa C h => s_drop (te.2 X fa C h.toHy) (swap_ok hn)⟩ else none
  | .Return (some e) pos => (p.E c e).map fun te => ⟨sRet te.1, fun X fa C h => s_ret (te.2 X fa C h.toHy)⟩
  | .Return none pos => some ⟨sRetN, fun X fa C h => s_retN⟩
  | .If t a b pos => (match p.T c t, p.Ss c a, p.Ss c b with
    | some tt, some ta, some tb => some ⟨sIf tt.1 ta.1 tb.1, fun X fa C h => s_if (tt.2 X fa C h.toHy) (ta.2 X fa C h) (tb.2 X fa C h)⟩
    | _, _, _ => none)
  | .While t a [] pos => (match p.T c t, p.Ss c a with
    | some tt, some ta => some ⟨sWhile tt.1 ta.1, fun X fa C h => s_while h.pa (tt.2 X fa C h.toHy) (ta.2 X fa C h)⟩
    | _, _ => none)
  | .For tg it a [] pos => if hs : notSet it = true then (match p.I c tg it, p.Gt c tg, p.Ss c a with
    | some ti, some g, some ta => some ⟨sFor ti.1 g.g ta.1, fun X fa C h => s_for h.pa h.calm (ti.2 X fa C h.toHy) (g.ok X fa C h.toHy) (ta.2 X fa C h) (fold_ok hs)⟩
    | _, _, _ => none) else none
  | .Assign [.Name y py] (.ListComp elt [⟨tg, iter, ifs, 0⟩] scope pos) spos => (match stepSetLc p c y py elt tg iter ifs scope pos spos with
    | some t => some t
    | none => stepSetLf p c y py elt [⟨tg, iter, ifs, 0⟩] scope pos spos)
  | .Assign [.Tuple [.Name x px, .Name y py] k pt] (.Tuple [a, b] k2 pt2) pos => (match stepPar p c x y px py pt pt2 pos a b k k2 with
    | some t => some t
    | none => stepAsg p c (.Tuple [.Name x px, .Name y py] k pt) (.Tuple [a, b] k2 pt2) pos)
  | .Assign [tg] e pos => stepAsg p c tg e pos
  | .AugAssign (.Name y py) op e pos => if hl : locB c y = true then (match hi : c.N.findIdx? (fun z => decide (z = y)) with
    | some i => if hN : c.N[i]? = some y then (match p.E c e, ho : augD op with
      | some te, some o => some ⟨sAug i te.1 o, fun X fa C h => s_aug h.nd (by rw [h.N]; exact hN) (loc_ok h.toHy hl).1 (te.2 X fa C h.toHy) (augD_ok ho) (loc_ok h.toHy hl).2⟩
      | _, _ => none) else none
    | none => none) else none
  | .AugAssign (.Subscript o i tpos) op e pos => if hs : notSlice i = true then (match p.E c o, p.E c i, p.E c e, ho : augD op with
    | some to, some ti, some te, some d => some ⟨sAugS to.1 ti.1 te.1 d, fun X fa C h => s_augS (by have := h.mo.hu; omega) (to.2 X fa C h.toHy) (ti.2 X fa C h.toHy) (te.2 X fa C h.toHy) (augD_ok ho) (aug_store hs)⟩
    | _, _, _, _ => none) else none
  | _ => none
/-- what is not covered never runs -/
def stepSs (ss : List Stmt) : Option (CSs G c ss) := match ss with
  | [] => some ⟨sNext, fun X fa C h => s_nil⟩
  | [s] => (match p.S c s with
    | some t => some ⟨t.1, fun X fa C h => s_one (t.2 X fa C h)⟩
    | none => some ⟨sNever, fun X fa C h => s_one s_never⟩)
  | s :: ss => (match p.S c s, p.Ss c ss with
    | some t, some u => some ⟨sSeq t.1 u.1, fun X fa C h => s_cons (t.2 X fa C h) (u.2 X fa C h)⟩
    | none, some u => some ⟨sSeq sNever u.1, fun X fa C h => s_cons s_never (u.2 X fa C h)⟩
    | _, none => none)
end
end DL
/-! The data layer: zip and enumerate over lists and tuples alike, whatever the target. -/
namespace DL
open PySem PySem.Spec PyProof.Rows L2
open Sem (wp)

/-! ### an iterator of a list (false), of a tuple (true) -/
def ItAt (t : Bool) (h : Heap) (i l : Addr) (k : Nat) : Prop := if t = true then h.IsTupleIter i l k else h.IsListIter i l k
def SqAt (t : Bool) (h : Heap) (l : Addr) (xs : Array Value) : Prop := if t = true then h.IsTuple l xs else h.IsList l xs
section
variable {prog : Program} {w : World} {A : Around} {E : Value → Shared → Prop} {s : Shared} {h h' : Heap} {t : Bool} {i l a : Addr} {k : Nat} {xs : Array Value} {x : Value}
theorem ItAt.at (p : ItAt t h i l k) (e : ∀ o, h.get? i = some o → h'.get? i = some o) : ItAt t h' i l k := by
  cases t with
  | false => exact Heap.IsListIter.at p e
  | true => exact Heap.IsTupleIter.at p e
theorem SqAt.at (p : SqAt t h l xs) (e : ∀ o, h.get? l = some o → h'.get? l = some o) : SqAt t h' l xs := by
  cases t with
  | false => obtain ⟨o, q, r⟩ := (show h.IsList l xs from p); exact ⟨o, e o q, r⟩
  | true => obtain ⟨o, q, r⟩ := (show h.IsTuple l xs from p); exact ⟨o, e o q, r⟩
theorem ItAt.there (p : ItAt t h i l k) : ∃ o, h.get? i = some o ∧ ∀ v, o.data ≠ .cell v := by
  cases t with
  | false => obtain ⟨o, q, _, d⟩ := (show h.IsListIter i l k from p); exact ⟨o, q, fun v z => by rw [d] at z; cases z⟩
  | true => obtain ⟨o, q, _, d⟩ := (show h.IsTupleIter i l k from p); exact ⟨o, q, fun v z => by rw [d] at z; cases z⟩
theorem draw_item {Q : Value → Shared → Prop} (p : ItAt t s.heap i l k) (q : SqAt t s.heap l xs) (hx : xs[k]? = some x) (go : ∀ h', ItAt t h' i l (k + 1) → Heap.ExtBut i s.heap h' → h'.objs.size = s.heap.objs.size → Q x { s with heap := h' }) :
    wpAny (model prog w) A (Builtin.SmallTypes.nextOf (.ref i)) Q E s := by
  cases t with
  | false => exact wpAny_nextOf_list_item (show s.heap.IsListIter i l k from p) q hx fun h' a b => go h' a b.extBut b.1
  | true => exact RZ.nextOf_tuple_item (show s.heap.IsTupleIter i l k from p) q hx fun h' a b => go h' a b.extBut b.1
theorem draw_end {Q : Value → Shared → Prop} (hh : A.handled = none) (p : ItAt t s.heap i l k) (q : SqAt t s.heap l xs) (hx : xs[k]? = none) (go : ∀ h' e, Heap.ExtBut i s.heap h' → (∃ o, h'.get? e = some o ∧ o.cls = .type "StopIteration") → E (.ref e) { s with heap := h' }) :
    wpAny (model prog w) A (Builtin.SmallTypes.nextOf (.ref i)) Q E s := by
  cases t with
  | false => exact wpAny_nextOf_list_end hh (show s.heap.IsListIter i l k from p) q hx go
  | true => exact RZ.nextOf_tuple_end hh (show s.heap.IsTupleIter i l k from p) q hx go

/-! ### zip -/
def zO (f0 f1 : Value) (TI TO : Addr) : Obj := { cls := .type "zip", dict := none, data := .fields #[f0, f1, .bool false, .ref TI, .ref TO], slots := #[] }
/-- f0: what was handed out last, if it must be thought of -/
def ZN (h : Heap) (z TI TO : Addr) : Prop := ∃ f0 f1 : Value, (f0 = .none ∨ ∃ T : Nat, f0 = rawInt (T : Int)) ∧ h.get? z = some (zO f0 f1 TI TO)
def Pr (h : Heap) (T : Addr) : Prop := ∃ a b, IsPair h T a b
theorem eb {a c : Addr} {h h' : Heap} {o : Obj} (e : Heap.ExtBut a h h') (hc : c ≠ a) (q : h.get? c = some o) : h'.get? c = some o := e c o hc q
/-- is the own tuple free? both may be; the zip object stays what it is -/
theorem zn_free {z TI TO : Addr} {Q : Bool → Shared → Prop} (hz : ZN s.heap z TI TO) (go : ∀ b h', ZN h' z TI TO → Heap.ExtBut z s.heap h' → h'.objs.size = s.heap.objs.size → Q b { s with heap := h' }) :
    wpAny (model prog w) A (Builtin.SmallTypes.ownedTupleIsFree (.ref z)) Q E s := by
  obtain ⟨f0, f1, hf, hz⟩ := hz
  unfold Builtin.SmallTypes.ownedTupleIsFree
  refine wpAny_bind (wpAny_field (vs := #[f0, f1, .bool false, .ref TI, .ref TO]) hz rfl (i := 0) (x := f0) rfl ?_)
  have same : Heap.ExtBut z s.heap s.heap := fun _ _ _ e => e
  rcases hf with e | ⟨T, e⟩
  · subst e
    exact wpAny_pure (go true s.heap ⟨_, _, .inl rfl, hz⟩ same rfl)
  · subst e
    show wpAny _ _ (loadIfAlive ((T : Int).toNat) >>= _) _ _ _
    rw [Int.toNat_natCast]
    have cut : ∀ {k : Option Obj → Sem Bool}, wpAny (model prog w) A (k (s.heap.get? T)) Q E s → wpAny (model prog w) A (loadIfAlive T >>= k) Q E s := fun {k} hk => wpAny_bind (m := loadIfAlive T) (show wpAny (model prog w) A (loadIfAlive T) (fun r s' => wpAny (model prog w) A (k r) Q E s') E s from fun _ _ _ => hk)
    refine cut ?_
    cases hT : s.heap.get? T with
    | none => exact wpAny_pure (go true s.heap ⟨_, _, .inr ⟨T, rfl⟩, hz⟩ same rfl)
    | some oT =>
      simp only [Option.isNone_some, Bool.false_eq_true, if_false]
      refine wpAny_bind (wpAny_field (vs := #[rawInt (T : Int), f1, .bool false, .ref TI, .ref TO]) hz rfl (i := 1) (x := f1) rfl ?_)
      by_cases hf1 : (f1 != .bool true) = true
      · rw [if_pos hf1]
        exact wpAny_bind (wpAny_setField_rec hz (by simp) fun h₁ hz₁ hs₁ => wpAny_pure (go false h₁ ⟨_, _, .inr ⟨T, rfl⟩, hz₁⟩ hs₁.extBut hs₁.1))
      · rw [if_neg hf1]
        exact wpAny_pure (go false s.heap ⟨_, _, .inr ⟨T, rfl⟩, hz⟩ same rfl)

variable {t1 t2 : Bool} {z TI TO i1 i2 l1 l2 : Addr} {k1 k2 : Nat} {ys : Array Value} {y : Value}
/-- what is there but the zip's own objects -/
abbrev Rest (h h' : Heap) (z TO i1 i2 : Addr) : Prop := ∀ c o, c ≠ z → c ≠ TO → c ≠ i1 → c ≠ i2 → h.get? c = some o → h'.get? c = some o
theorem zn_item {Q : Value → Shared → Prop} (D : ZipApart z TI TO i1 i2 l1 l2) (hz : ZN s.heap z TI TO) (hTI : IsPair s.heap TI (.ref i1) (.ref i2)) (hTO : Pr s.heap TO) (p1 : ItAt t1 s.heap i1 l1 k1) (p2 : ItAt t2 s.heap i2 l2 k2) (q1 : SqAt t1 s.heap l1 xs) (q2 : SqAt t2 s.heap l2 ys)
    (hx : xs[k1]? = some x) (hy : ys[k2]? = some y)
    (go : ∀ h', ZN h' z TI TO → Pr h' TO → ItAt t1 h' i1 l1 (k1 + 1) → ItAt t2 h' i2 l2 (k2 + 1) → IsPair h' s.heap.objs.size x y → h'.objs.size = s.heap.objs.size + 1 → Rest s.heap h' z TO i1 i2 → Q (.ref s.heap.objs.size) { s with heap := h' }) :
    wpAny (model prog w) A (Builtin.«zip.__next__» ⟨[.ref z], []⟩) (fun fin s' => ∃ v, fin = .done (.ret v) ∧ Q v s') E s := by
  have hz' := hz
  obtain ⟨f0, f1, hf, ho⟩ := hz
  show wpAny _ _ (field (.ref z) 2 >>= _) _ _ _
  refine wpAny_bind (wpAny_field (vs := #[f0, f1, .bool false, .ref TI, .ref TO]) ho rfl (x := .bool false) rfl ?_)
  show wpAny _ _ (field (.ref z) 3 >>= _) _ _ _
  refine wpAny_bind (wpAny_field (vs := #[f0, f1, .bool false, .ref TI, .ref TO]) ho rfl (x := .ref TI) rfl (wpAny_bind (wpAny_seqItems hTI rfl ?_)))
  show wpAny _ _ (Builtin.SmallTypes.ownedTupleIsFree (.ref z) >>= _) _ _ _
  refine wpAny_bind (zn_free hz' fun b h₁ hz₁ e₁ n₁ => ?_)
  have p1₁ := p1.at fun o q => eb e₁ D.i1z q
  have p2₁ := p2.at fun o q => eb e₁ D.i2z q
  have q1₁ := q1.at fun o q => eb e₁ D.l1z q
  have q2₁ := q2.at fun o q => eb e₁ D.l2z q
  obtain ⟨a, b', hTO⟩ := hTO
  have hTO₁ : IsPair h₁ TO a b' := eb e₁ D.TOz hTO
  cases b with
  | false =>
    simp only [Bool.false_eq_true, if_false]
    refine wpAny_bind ?_
    rw [← Array.forIn_toList]
    simp only [List.forIn_cons, List.forIn_nil]
    refine wpAny_bind (wpAny_bind (wpAny_holding ?_))
    show wpAny _ _ (Builtin.SmallTypes.nextOf (.ref i1) >>= _) _ _ _
    refine wpAny_bind (draw_item (s := { s with heap := h₁ }) p1₁ q1₁ hx fun h₂ p1₂ e₂ n₂ => wpAny_pure (wpAny_pure ?_))
    refine wpAny_bind (wpAny_bind (wpAny_holding ?_))
    show wpAny _ _ (Builtin.SmallTypes.nextOf (.ref i2) >>= _) _ _ _
    refine wpAny_bind (draw_item (s := { s with heap := h₂ }) (p2₁.at fun o q => eb e₂ D.i12.symm q) (q2₁.at fun o q => eb e₂ D.l2i1 q) hy fun h₃ p2₃ e₃ n₃ => wpAny_pure (wpAny_pure (wpAny_pure ?_)))
    show wpAny _ _ (newTuple [x, y] >>= _) _ _ _
    refine wpAny_bind (wpAny_newTuple (wpAny_pure ⟨_, rfl, ?_⟩))
    have n : h₃.objs.size = s.heap.objs.size := n₃.trans (n₂.trans n₁)
    obtain ⟨g0, g1, hg, hz₁⟩ := hz₁
    have hp : IsPair (h₃.push { cls := .type "tuple", data := .seq #[x, y] }) h₃.objs.size x y := Heap.get?_push_size _ rfl
    have up : ∀ c o, h₃.get? c = some o → (h₃.push { cls := .type "tuple", data := .seq #[x, y] }).get? c = some o := fun c o q => Heap.get?_push_of_some _ q
    have hn : (h₃.push { cls := .type "tuple", data := .seq #[x, y] }).objs.size = h₃.objs.size + 1 := Heap.size_push ..
    show Q (.ref h₃.objs.size) _
    rw [n] at hp hn ⊢
    exact go _ ⟨g0, g1, hg, up _ _ (eb e₃ D.i2z.symm (eb e₂ D.i1z.symm hz₁))⟩ ⟨a, b', up _ _ (eb e₃ D.TOi2 (eb e₂ D.TOi1 hTO₁))⟩ (p1₂.at fun o q => up _ _ (eb e₃ D.i12 q)) (p2₃.at fun o q => up _ _ q) hp hn
      fun c o c1 _ c3 c4 q => up _ _ (eb e₃ c4 (eb e₂ c3 (eb e₁ c1 q)))
  | true =>
    simp only [if_true]
    obtain ⟨g0, g1, hg, hz₁⟩ := hz₁
    refine wpAny_bind (wpAny_rule (wpAny_bind (wpAny_field (vs := #[g0, g1, .bool false, .ref TI, .ref TO]) hz₁ rfl (x := .ref TO) rfl ?_)))
    refine wpAny_bind (wpAny_setField_rec hz₁ (by simp) fun h₂ hz₂ s₂ => ?_)
    have hz₂ : h₂.get? z = some (zO .ellipsis g1 TI TO) := hz₂
    have e₂ := s₂.extBut
    refine wpAny_bind ?_
    simp only [List.zipIdx_cons, List.zipIdx_nil, List.forIn_cons, List.forIn_nil]
    refine wpAny_bind (wpAny_bind (wpAny_onRaise ?_))
    show wpAny _ _ (Builtin.SmallTypes.nextOf (.ref i1) >>= _) _ _ _
    refine wpAny_bind (draw_item (s := { s with heap := h₂ }) (p1₁.at fun o q => eb e₂ D.i1z q) (q1₁.at fun o q => eb e₂ D.l1z q) hx fun h₃ p1₃ e₃ n₃ => wpAny_pure ?_)
    have hTO₃ : IsPair h₃ TO a b' := eb e₃ D.TOi1 (eb e₂ D.TOz hTO₁)
    refine wpAny_bind (wpAny_seqItems hTO₃ rfl (wpAny_bind (wpAny_updateSeq_pair hTO₃ fun h₄ hTO₄ s₄ => wpAny_bind (wpAny_letGo (wpAny_pure ?_)))))
    have hTO₄ : IsPair h₄ TO x b' := hTO₄
    have e₄ := s₄.extBut
    refine wpAny_bind (wpAny_bind (wpAny_onRaise ?_))
    show wpAny _ _ (Builtin.SmallTypes.nextOf (.ref i2) >>= _) _ _ _
    refine wpAny_bind (draw_item (s := { s with heap := h₄ }) (p2₁.at fun o q => eb e₄ D.TOi2.symm (eb e₃ D.i12.symm (eb e₂ D.i2z q))) (q2₁.at fun o q => eb e₄ D.l2TO (eb e₃ D.l2i1 (eb e₂ D.l2z q))) hy fun h₅ p2₅ e₅ n₅ => wpAny_pure ?_)
    have hTO₅ : IsPair h₅ TO x b' := eb e₅ D.TOi2 hTO₄
    refine wpAny_bind (wpAny_seqItems hTO₅ rfl (wpAny_bind (wpAny_updateSeq_pair hTO₅ fun h₆ hTO₆ s₆ => wpAny_bind (wpAny_letGo (wpAny_pure (wpAny_pure ?_))))))
    have hTO₆ : IsPair h₆ TO x y := hTO₆
    have e₆ := s₆.extBut
    refine wpAny_bind (wpAny_seqItems hTO₆ rfl (wpAny_bind (wpAny_newTuple ?_)))
    have n : h₆.objs.size = s.heap.objs.size := s₆.1.trans (n₅.trans (s₄.1.trans (n₃.trans (s₂.1.trans n₁))))
    have hz₆ : h₆.get? z = some (zO .ellipsis g1 TI TO) := eb e₆ D.TOz.symm (eb e₅ D.i2z.symm (eb e₄ D.TOz.symm (eb e₃ D.i1z.symm hz₂)))
    have p1₆ : ItAt t1 h₆ i1 l1 (k1 + 1) := p1₃.at fun o q => eb e₆ D.TOi1.symm (eb e₅ D.i12 (eb e₄ D.TOi1.symm q))
    have p2₆ : ItAt t2 h₆ i2 l2 (k2 + 1) := p2₅.at fun o q => eb e₆ D.TOi2.symm q
    have r₆ : Rest s.heap h₆ z TO i1 i2 := fun c o c1 c2 c3 c4 q => eb e₆ c2 (eb e₅ c4 (eb e₄ c2 (eb e₃ c3 (eb e₂ c1 (eb e₁ c1 q)))))
    have zl : z < h₆.objs.size := Heap.lt_size hz₆
    show wpAny _ _ (Builtin.SmallTypes.ownedTupleHandOut (.ref z) (.ref h₆.objs.size) >>= _) _ _ _
    refine wpAny_bind ?_
    unfold Builtin.SmallTypes.ownedTupleHandOut
    have hz₇ : (h₆.push { cls := .type "tuple", data := .seq #[x, y] }).get? z = some (zO .ellipsis g1 TI TO) := Heap.get?_push_of_some _ hz₆
    refine wpAny_bind (wpAny_setField_rec hz₇ (by simp) fun h₈ hz₈ s₈ => ?_)
    have hz₈ : h₈.get? z = some (zO (rawInt (h₆.objs.size : Nat)) g1 TI TO) := hz₈
    refine wpAny_setField_rec hz₈ (by simp) fun h₉ hz₉ s₉ => wpAny_pure ⟨_, rfl, ?_⟩
    have hz₉ : h₉.get? z = some (zO (rawInt (h₆.objs.size : Nat)) (.bool false) TI TO) := hz₉
    have up : ∀ c o, c ≠ z → h₆.get? c = some o → h₉.get? c = some o := fun c o cz q => eb s₉.extBut cz (eb s₈.extBut cz (Heap.get?_push_of_some _ q))
    have hp : IsPair h₉ h₆.objs.size x y := eb s₉.extBut (Nat.ne_of_gt zl) (eb s₈.extBut (Nat.ne_of_gt zl) (Heap.get?_push_size _ rfl))
    have hn : h₉.objs.size = h₆.objs.size + 1 := s₉.1.trans (s₈.1.trans (Heap.size_push ..))
    show Q (.ref h₆.objs.size) _
    rw [n] at hp hn ⊢
    exact go h₉ ⟨_, _, .inr ⟨_, rfl⟩, hz₉⟩ ⟨x, y, up _ _ D.TOz hTO₆⟩ (p1₆.at fun o q => up _ _ D.i1z q) (p2₆.at fun o q => up _ _ D.i2z q) hp hn fun c o c1 c2 c3 c4 q => up c o c1 (r₆ c o c1 c2 c3 c4 q)
theorem zn_end {Q : Fin → Shared → Prop} (hh : A.handled = none) (D : ZipApart z TI TO i1 i2 l1 l2) (hz : ZN s.heap z TI TO) (hTI : IsPair s.heap TI (.ref i1) (.ref i2)) (hTO : Pr s.heap TO) (p1 : ItAt t1 s.heap i1 l1 k1) (p2 : ItAt t2 s.heap i2 l2 k2) (q1 : SqAt t1 s.heap l1 xs) (q2 : SqAt t2 s.heap l2 ys)
    (hend : xs[k1]? = none ∨ ys[k2]? = none) (go : ∀ h' e, Rest s.heap h' z TO i1 i2 → (∃ o, h'.get? e = some o ∧ o.cls = .type "StopIteration") → E (.ref e) { s with heap := h' }) :
    wpAny (model prog w) A (Builtin.«zip.__next__» ⟨[.ref z], []⟩) Q E s := by
  have hz' := hz
  obtain ⟨f0, f1, hf, ho⟩ := hz
  show wpAny _ _ (field (.ref z) 2 >>= _) _ _ _
  refine wpAny_bind (wpAny_field (vs := #[f0, f1, .bool false, .ref TI, .ref TO]) ho rfl (x := .bool false) rfl ?_)
  show wpAny _ _ (field (.ref z) 3 >>= _) _ _ _
  refine wpAny_bind (wpAny_field (vs := #[f0, f1, .bool false, .ref TI, .ref TO]) ho rfl (x := .ref TI) rfl (wpAny_bind (wpAny_seqItems hTI rfl ?_)))
  show wpAny _ _ (Builtin.SmallTypes.ownedTupleIsFree (.ref z) >>= _) _ _ _
  refine wpAny_bind (zn_free hz' fun b h₁ hz₁ e₁ n₁ => ?_)
  have p1₁ := p1.at fun o q => eb e₁ D.i1z q
  have p2₁ := p2.at fun o q => eb e₁ D.i2z q
  have q1₁ := q1.at fun o q => eb e₁ D.l1z q
  have q2₁ := q2.at fun o q => eb e₁ D.l2z q
  obtain ⟨a, b', hTO⟩ := hTO
  have hTO₁ : IsPair h₁ TO a b' := eb e₁ D.TOz hTO
  cases b with
  | false =>
    simp only [Bool.false_eq_true, if_false]
    refine wpAny_bind ?_
    rw [← Array.forIn_toList]
    simp only [List.forIn_cons, List.forIn_nil]
    refine wpAny_bind (wpAny_bind (wpAny_holding ?_))
    show wpAny _ _ (Builtin.SmallTypes.nextOf (.ref i1) >>= _) _ _ _
    cases hx : xs[k1]? with
    | none => exact wpAny_bind (draw_end (s := { s with heap := h₁ }) hh p1₁ q1₁ hx fun h₂ e e₂ he => go h₂ e (fun c o c1 _ c3 _ q => eb e₂ c3 (eb e₁ c1 q)) he)
    | some x =>
      have hy : ys[k2]? = none := hend.elim (fun z => by rw [hx] at z; cases z) id
      refine wpAny_bind (draw_item (s := { s with heap := h₁ }) p1₁ q1₁ hx fun h₂ p1₂ e₂ n₂ => wpAny_pure (wpAny_pure ?_))
      refine wpAny_bind (wpAny_bind (wpAny_holding ?_))
      show wpAny _ _ (Builtin.SmallTypes.nextOf (.ref i2) >>= _) _ _ _
      exact wpAny_bind (draw_end (s := { s with heap := h₂ }) hh (p2₁.at fun o q => eb e₂ D.i12.symm q) (q2₁.at fun o q => eb e₂ D.l2i1 q) hy fun h₃ e e₃ he => go h₃ e (fun c o c1 _ c3 c4 q => eb e₃ c4 (eb e₂ c3 (eb e₁ c1 q))) he)
  | true =>
    simp only [if_true]
    obtain ⟨g0, g1, hg, hz₁⟩ := hz₁
    refine wpAny_bind (wpAny_rule (wpAny_bind (wpAny_field (vs := #[g0, g1, .bool false, .ref TI, .ref TO]) hz₁ rfl (x := .ref TO) rfl ?_)))
    refine wpAny_bind (wpAny_setField_rec hz₁ (by simp) fun h₂ hz₂ s₂ => ?_)
    have hz₂ : h₂.get? z = some (zO .ellipsis g1 TI TO) := hz₂
    have e₂ := s₂.extBut
    refine wpAny_bind ?_
    simp only [List.zipIdx_cons, List.zipIdx_nil, List.forIn_cons, List.forIn_nil]
    refine wpAny_bind (wpAny_bind (wpAny_onRaise ?_))
    show wpAny _ _ (Builtin.SmallTypes.nextOf (.ref i1) >>= _) _ _ _
    have p1₂ := p1₁.at fun o q => eb e₂ D.i1z q
    have q1₂ := q1₁.at fun o q => eb e₂ D.l1z q
    cases hx : xs[k1]? with
    | none =>
      refine wpAny_bind (draw_end (s := { s with heap := h₂ }) hh p1₂ q1₂ hx fun h₃ e e₃ ⟨oe, he, ce⟩ => ?_)
      have hz₃ : h₃.get? z = some (zO .ellipsis g1 TI TO) := eb e₃ D.i1z.symm hz₂
      have ne : e ≠ z := fun q => by subst q; rw [hz₃] at he; cases he; simp [zO] at ce
      exact wpAny_setField_rec hz₃ (by simp) fun h₄ _ s₄ => go h₄ e (fun c o c1 _ c3 _ q => eb s₄.extBut c1 (eb e₃ c3 (eb e₂ c1 (eb e₁ c1 q)))) ⟨oe, eb s₄.extBut ne he, ce⟩
    | some x =>
      have hy : ys[k2]? = none := hend.elim (fun z => by rw [hx] at z; cases z) id
      refine wpAny_bind (draw_item (s := { s with heap := h₂ }) p1₂ q1₂ hx fun h₃ p1₃ e₃ n₃ => wpAny_pure ?_)
      have hTO₃ : IsPair h₃ TO a b' := eb e₃ D.TOi1 (eb e₂ D.TOz hTO₁)
      refine wpAny_bind (wpAny_seqItems hTO₃ rfl (wpAny_bind (wpAny_updateSeq_pair hTO₃ fun h₄ hTO₄ s₄ => wpAny_bind (wpAny_letGo (wpAny_pure ?_)))))
      have e₄ := s₄.extBut
      refine wpAny_bind (wpAny_bind (wpAny_onRaise ?_))
      show wpAny _ _ (Builtin.SmallTypes.nextOf (.ref i2) >>= _) _ _ _
      refine wpAny_bind (draw_end (s := { s with heap := h₄ }) hh (p2₁.at fun o q => eb e₄ D.TOi2.symm (eb e₃ D.i12.symm (eb e₂ D.i2z q))) (q2₁.at fun o q => eb e₄ D.l2TO (eb e₃ D.l2i1 (eb e₂ D.l2z q))) hy fun h₅ e e₅ ⟨oe, he, ce⟩ => ?_)
      have hz₅ : h₅.get? z = some (zO .ellipsis g1 TI TO) := eb e₅ D.i2z.symm (eb e₄ D.TOz.symm (eb e₃ D.i1z.symm hz₂))
      have ne : e ≠ z := fun q => by subst q; rw [hz₅] at he; cases he; simp [zO] at ce
      exact wpAny_setField_rec hz₅ (by simp) fun h₆ _ s₆ => go h₆ e (fun c o c1 c2 c3 c4 q => eb s₆.extBut c1 (eb e₅ c4 (eb e₄ c2 (eb e₃ c3 (eb e₂ c1 (eb e₁ c1 q)))))) ⟨oe, eb s₆.extBut ne he, ce⟩

/-- the step ahead of the store: the zip may forget what it handed out -/
theorem own_go {tg : Expr} {r : Addr} {v : Value} {o : Obj} {n : String} {vs : Array Value} {Q : Unit → Shared → Prop} (ho : s.heap.get? r = some o) (hc : o.cls = .type n) (hd : o.data = .fields vs) (hv : ∃ a, v = .ref a)
    (same : Q () s) (forget : wpAny (model prog w) A (updateField r 0 .none) Q E s) : wpAny (model prog w) A (letOwnedTupleGo tg (.ref r) v) Q E s := by
  obtain ⟨a, rfl⟩ := hv
  unfold letOwnedTupleGo
  cases tg <;> first
    | exact wpAny_pure same
    | (refine wpAny_bind (wpAny_load ho ?_)
       rw [hc, hd]
       dsimp only
       split
       · exact wpAny_bind (wpAny_rule forget)
       · exact wpAny_pure same)
theorem zn_own {tg : Expr} {z TI TO a : Addr} {Q : Unit → Shared → Prop} (hz : ZN s.heap z TI TO) (go : ∀ h', ZN h' z TI TO → Heap.ExtBut z s.heap h' → Q () { s with heap := h' }) : wpAny (model prog w) A (letOwnedTupleGo tg (.ref z) (.ref a)) Q E s := by
  obtain ⟨f0, f1, hf, hz'⟩ := hz
  refine own_go hz' rfl rfl ⟨a, rfl⟩ (go s.heap ⟨f0, f1, hf, hz'⟩ fun _ _ _ e => e) ?_
  show wpAny _ _ (setField (.ref z) 0 .none) Q E s
  exact wpAny_setField_rec hz' (by simp) fun h₁ hz₁ s₁ => go h₁ ⟨_, _, .inl rfl, hz₁⟩ s₁.extBut
theorem zn_pyNext {Q : Option Value → Shared → Prop} (D : ZipApart z TI TO i1 i2 l1 l2) (hz : ZN s.heap z TI TO) (hTI : IsPair s.heap TI (.ref i1) (.ref i2)) (hTO : Pr s.heap TO) (p1 : ItAt t1 s.heap i1 l1 k1) (p2 : ItAt t2 s.heap i2 l2 k2) (q1 : SqAt t1 s.heap l1 xs) (q2 : SqAt t2 s.heap l2 ys)
    (hx : xs[k1]? = some x) (hy : ys[k2]? = some y)
    (go : ∀ h', ZN h' z TI TO → Pr h' TO → ItAt t1 h' i1 l1 (k1 + 1) → ItAt t2 h' i2 l2 (k2 + 1) → IsPair h' s.heap.objs.size x y → h'.objs.size = s.heap.objs.size + 1 → Rest s.heap h' z TO i1 i2 → Q (some (.ref s.heap.objs.size)) { s with heap := h' }) :
    wpAny (model prog w) A (pyNext (.ref z)) Q E s := by
  have ty : s.TypeIs (.ref z) "zip" := by obtain ⟨f0, f1, _, h⟩ := hz; exact ⟨_, h, rfl⟩
  unfold pyNext
  exact wpAny_bind (wpAny_attempt (wpAny_callSpecial?_slot (name := Str.ofString "__next__") ty F.slot_zip_next (wpAny_call_entry F.slot_zip_next ty F.entry_zip_next
    (zn_item D hz hTI hTO p1 p2 q1 q2 hx hy fun h' a b c d e f g => wpAny_pure (go h' a b c d e f g)) (F.args_zip_next_1 _))))
theorem zn_pyStop {Q : Option Value → Shared → Prop} (hh : A.handled = none) (D : ZipApart z TI TO i1 i2 l1 l2) (hz : ZN s.heap z TI TO) (hTI : IsPair s.heap TI (.ref i1) (.ref i2)) (hTO : Pr s.heap TO) (p1 : ItAt t1 s.heap i1 l1 k1) (p2 : ItAt t2 s.heap i2 l2 k2) (q1 : SqAt t1 s.heap l1 xs) (q2 : SqAt t2 s.heap l2 ys)
    (hend : xs[k1]? = none ∨ ys[k2]? = none) (go : ∀ h', Rest s.heap h' z TO i1 i2 → Q none { s with heap := h' }) : wpAny (model prog w) A (pyNext (.ref z)) Q E s := by
  have ty : s.TypeIs (.ref z) "zip" := by obtain ⟨f0, f1, _, h⟩ := hz; exact ⟨_, h, rfl⟩
  unfold pyNext
  refine wpAny_bind (wpAny_attempt (wpAny_callSpecial?_slot (name := Str.ofString "__next__") ty F.slot_zip_next (wpAny_call_entry F.slot_zip_next ty F.entry_zip_next
    (zn_end hh D hz hTI hTO p1 p2 q1 q2 hend fun h' e r he => ?_) (F.args_zip_next_1 _))))
  obtain ⟨o, ho, hc⟩ := he
  exact wpAny_bind (wpAny_isInstance (T := "StopIteration") (b := true) ⟨o, ho, hc⟩ isSubtype_stop (wpAny_pure (go h' r)))
theorem zn_pyIter {Q : Value → Shared → Prop} (hz : ZN s.heap z TI TO) (h : Q (.ref z) s) : wpAny (model prog w) A (pyIter (.ref z)) Q E s := by
  have ty : s.TypeIs (.ref z) "zip" := by obtain ⟨f0, f1, _, h⟩ := hz; exact ⟨_, h, rfl⟩
  refine wpAny_pyIter_slot ty F.slot_zip_iter (wpAny_call_entry F.slot_zip_iter ty F.entry_zip_iter ?_ (F.args_zip_iter_1 _))
  show wpAny _ _ (ret (.ref z)) _ _ s
  exact wpAny_pure ⟨_, rfl, "zip", _, ty, F.slot_zip_next.lookup, h⟩
end

/-! ### a zip is made -/
def itO (t : Bool) (l : Addr) : Obj := { cls := .type (if t = true then "tuple_iterator" else "list_iterator"), data := .fields #[.ref l, .int 0 0] }
def zH1 (t : Bool) (h : Heap) (l : Addr) : Heap := h.push (itO t l)
def zH3 (t1 t2 : Bool) (h : Heap) (l1 l2 : Addr) : Heap := (zH1 t2 (zH1 t1 h l1) l2).push { cls := .type "tuple", data := .seq #[.ref h.objs.size, .ref (zH1 t1 h l1).objs.size] }
def zH4 (t1 t2 : Bool) (h : Heap) (l1 l2 : Addr) : Heap := (zH3 t1 t2 h l1 l2).push { cls := .type "tuple", data := .seq #[.none, .none] }
def zH5 (t1 t2 : Bool) (h : Heap) (l1 l2 : Addr) : Heap := (zH4 t1 t2 h l1 l2).push (zO .none (.bool false) (zH1 t2 (zH1 t1 h l1) l2).objs.size (zH3 t1 t2 h l1 l2).objs.size)
theorem zn_meets (t1 t2 : Bool) (l1 l2 : Addr) (xs ys : Array Value) : Meets (Builtin.«zip.__new__» ⟨[.type "zip", .ref l1, .ref l2], []⟩) (fun _ R s => SqAt t1 s.heap l1 xs ∧ SqAt t2 s.heap l2 ys ∧
    R (.ok (.ret (.ref (zH4 t1 t2 s.heap l1 l2).objs.size))) { s with heap := zH5 t1 t2 s.heap l1 l2 }) := by
  cases t1 <;> cases t2
  · exact meets_zip_new l1 l2 xs ys
  · refine .of_wp fun prog w A R s h => ?_
    obtain ⟨hp, g, d, tk, os⟩ := s
    obtain ⟨h1, h2, h⟩ := h
    have sb := sub_zip
    have b1 : Heap.IsList (Shared.heap ⟨hp, g, d, tk, os⟩) l1 xs := h1
    have b2 : Heap.IsTuple (Shared.heap ⟨hp.push { cls := .type "list_iterator", data := .fields #[.ref l1, .int 0 0] }, g, d, tk, os⟩) l2 ys := (show SqAt true hp l2 ys from h2).at fun o q => Heap.get?_push_of_some _ q
    wp_walk using wpAny_pyIter_list b1, wpAny_pyIter_tuple b2
    exact ⟨_, rfl, h⟩
  · refine .of_wp fun prog w A R s h => ?_
    obtain ⟨hp, g, d, tk, os⟩ := s
    obtain ⟨h1, h2, h⟩ := h
    have sb := sub_zip
    have b1 : Heap.IsTuple (Shared.heap ⟨hp, g, d, tk, os⟩) l1 xs := h1
    have b2 : Heap.IsList (Shared.heap ⟨hp.push { cls := .type "tuple_iterator", data := .fields #[.ref l1, .int 0 0] }, g, d, tk, os⟩) l2 ys := (show SqAt false hp l2 ys from h2).at fun o q => Heap.get?_push_of_some _ q
    wp_walk using wpAny_pyIter_tuple b1, wpAny_pyIter_list b2
    exact ⟨_, rfl, h⟩
  · exact RZ.meets_zipT_new l1 l2 xs ys
section
variable {prog : Program} {w : World} {A : Around} {E : Value → Shared → Prop} {s : Shared} {t1 t2 : Bool} {l1 l2 : Addr} {xs ys : Array Value}
theorem it_new {t : Bool} {h : Heap} {i l : Addr} (e : h.get? i = some (itO t l)) : ItAt t h i l 0 := by
  cases t with
  | false => exact ⟨_, e, rfl, rfl⟩
  | true => exact ⟨_, e, rfl, rfl⟩
theorem zn_call {Q : Value → Shared → Prop} (q1 : SqAt t1 s.heap l1 xs) (q2 : SqAt t2 s.heap l2 ys)
    (go : ∀ h', ZN h' (s.heap.objs.size + 4) (s.heap.objs.size + 2) (s.heap.objs.size + 3) → IsPair h' (s.heap.objs.size + 2) (.ref s.heap.objs.size) (.ref (s.heap.objs.size + 1)) → Pr h' (s.heap.objs.size + 3) → ItAt t1 h' s.heap.objs.size l1 0 → ItAt t2 h' (s.heap.objs.size + 1) l2 0 →
      (∀ c o, s.heap.get? c = some o → h'.get? c = some o) → Q (.ref (s.heap.objs.size + 4)) { s with heap := h' }) : wpAny (model prog w) A (call (.type "zip") [.ref l1, .ref l2]) Q E s := by
  refine callType_new F.called_zip (by decide) (F.typeCall_zip_2 _ _) (F.newCall_zip_2 _ _) (fun obj => F.args_object_init_3 obj _ _) F.entry_zip_new (zn_meets t1 t2 l1 l2 xs ys) ⟨q1, q2, ?_⟩
  have n1 : (zH1 t1 s.heap l1).objs.size = s.heap.objs.size + 1 := Heap.size_push ..
  have n2 : (zH1 t2 (zH1 t1 s.heap l1) l2).objs.size = s.heap.objs.size + 2 := (Heap.size_push ..).trans (by rw [n1])
  have n3 : (zH3 t1 t2 s.heap l1 l2).objs.size = s.heap.objs.size + 3 := (Heap.size_push ..).trans (by rw [n2])
  have n4 : (zH4 t1 t2 s.heap l1 l2).objs.size = s.heap.objs.size + 4 := (Heap.size_push ..).trans (by rw [n3])
  have u5 : ∀ c o, (zH4 t1 t2 s.heap l1 l2).get? c = some o → (zH5 t1 t2 s.heap l1 l2).get? c = some o := fun c o q => Heap.get?_push_of_some _ q
  have u4 : ∀ c o, (zH3 t1 t2 s.heap l1 l2).get? c = some o → (zH5 t1 t2 s.heap l1 l2).get? c = some o := fun c o q => u5 c o (Heap.get?_push_of_some _ q)
  have u3 : ∀ c o, (zH1 t2 (zH1 t1 s.heap l1) l2).get? c = some o → (zH5 t1 t2 s.heap l1 l2).get? c = some o := fun c o q => u4 c o (Heap.get?_push_of_some _ q)
  have u2 : ∀ c o, (zH1 t1 s.heap l1).get? c = some o → (zH5 t1 t2 s.heap l1 l2).get? c = some o := fun c o q => u3 c o (Heap.get?_push_of_some _ q)
  have g5 : (zH5 t1 t2 s.heap l1 l2).get? (zH4 t1 t2 s.heap l1 l2).objs.size = some (zO .none (.bool false) (zH1 t2 (zH1 t1 s.heap l1) l2).objs.size (zH3 t1 t2 s.heap l1 l2).objs.size) := Heap.get?_push_size _ rfl
  have g4 : IsPair (zH5 t1 t2 s.heap l1 l2) (zH3 t1 t2 s.heap l1 l2).objs.size .none .none := u5 _ _ (Heap.get?_push_size _ rfl)
  have g3 : IsPair (zH5 t1 t2 s.heap l1 l2) (zH1 t2 (zH1 t1 s.heap l1) l2).objs.size (.ref s.heap.objs.size) (.ref (zH1 t1 s.heap l1).objs.size) := u4 _ _ (Heap.get?_push_size _ rfl)
  have g2 : (zH5 t1 t2 s.heap l1 l2).get? (zH1 t1 s.heap l1).objs.size = some (itO t2 l2) := u3 _ _ (Heap.get?_push_size _ rfl)
  have g1 : (zH5 t1 t2 s.heap l1 l2).get? s.heap.objs.size = some (itO t1 l1) := u2 _ _ (Heap.get?_push_size _ rfl)
  rw [n1] at g2 g3
  rw [n2] at g3
  rw [n3] at g4
  rw [n4, n2, n3] at g5
  show _ ∧ _
  rw [n4]
  exact ⟨⟨_, g5, rfl⟩, go _ ⟨_, _, .inl rfl, g5⟩ g3 ⟨_, _, g4⟩ (it_new g1) (it_new g2) fun c o q => u2 c o (Heap.get?_push_of_some _ q)⟩
end
end DL
/-! The data layer: zip and enumerate as what a loop walks. -/
namespace DL
open PySem PySem.Spec PyProof.Rows L2

def SqB (t : Bool) (K : PySem.W.Frag) (H : Hp) (a : Addr) (xs : List V) : Prop := if t = true then SqT K H a xs else SqL K H a xs
section
variable {X : Cx} {pins : List (Addr × Obj)} {σ : L2.St} {H : Hp} {s : Shared} {t t1 t2 : Bool} {a b : Addr} {xs ys : List V}
theorem sq_in (I : Inv X pins σ H s) (h : SqB t X.K H a xs) : ∃ its : List Value, Vals xs its ∧ SqAt t s.heap a its.toArray := by
  cases t with
  | false => obtain ⟨its, r, p, _⟩ := I.list h; exact ⟨its, r, p.isList⟩
  | true => obtain ⟨its, r, p, _⟩ := I.tuple h; exact ⟨its, r, p⟩
theorem sq_one (I : Inv X pins σ H s) (h : SqB t X.K H a xs) (g : SqB t X.K H a ys) : xs = ys := by
  cases t with
  | false => exact I.list_inj h g
  | true => exact I.tuple_inj h g
theorem SqAt.lt {h : Heap} {its : Array Value} (p : SqAt t h a its) : a < h.objs.size := by
  cases t with
  | false => obtain ⟨o, e, _⟩ := (show h.IsList a its from p); exact Heap.lt_size e
  | true => obtain ⟨o, e, _⟩ := (show h.IsTuple a its from p); exact Heap.lt_size e
/-- the sequences at a and b as they stand at each turn, the items in new pairs -/
def ItZ (t1 t2 : Bool) (K : PySem.W.Frag) (a b : Addr) : It where
  go := fun i H => ∃ (xs ys : List V) (x y : V), SqB t1 K H a xs ∧ SqB t2 K H b ys ∧ xs[i]? = some x ∧ ys[i]? = some y
  yld := fun i H v H' => ∃ T x y, v = .ref T ∧ H T = none ∧ H' = upd H T (.tup [x, y]) ∧ (∀ xs, SqB t1 K H a xs → xs[i]? = some x) ∧ ∀ ys, SqB t2 K H b ys → ys[i]? = some y
  stop := fun i H => ∃ xs ys : List V, SqB t1 K H a xs ∧ SqB t2 K H b ys ∧ (xs.length ≤ i ∨ ys.length ≤ i)
theorem turn_Z {P : Program} {w : World} {K : PySem.W.Frag} {tg : Expr} {z TI TO i1 i2 : Addr} (D : ZipApart z TI TO i1 i2 a b) :
    Turn P w K tg (ItZ t1 t2 K a b) [z, TI, TO, i1, i2] z (fun i h => ZN h z TI TO ∧ IsPair h TI (.ref i1) (.ref i2) ∧ Pr h TO ∧ ItAt t1 h i1 a i ∧ ItAt t2 h i2 b i) where
  mem := List.mem_cons_self
  obj := fun i h ⟨⟨f0, f1, _, hz⟩, hTI, ⟨x, y, hTO⟩, p1, p2⟩ c hc => by
    rcases (show c = z ∨ c = TI ∨ c = TO ∨ c = i1 ∨ c = i2 by simpa using hc) with rfl | rfl | rfl | rfl | rfl
    · exact ⟨_, hz, fun _ q => nomatch q⟩
    · exact ⟨_, hTI, fun _ q => nomatch q⟩
    · exact ⟨_, hTO, fun _ q => nomatch q⟩
    · exact p1.there
    · exact p2.there
  keep := fun i h h' ⟨⟨f0, f1, hf, hz⟩, hTI, ⟨x, y, hTO⟩, p1, p2⟩ k => ⟨⟨f0, f1, hf, k _ (by simp) _ hz⟩, k _ (by simp) _ hTI, ⟨x, y, k _ (by simp) _ hTO⟩, p1.at fun o q => k _ (by simp) o q, p2.at fun o q => k _ (by simp) o q⟩
  item := by
    rintro X rfl rfl rfl hc i pins s σ H E I hf ⟨hz, hTI, hTO, p1, p2⟩ ⟨xs, ys, x, y, sx, sy, hx, hy⟩
    obtain ⟨us, ru, qu⟩ := sq_in I sx
    obtain ⟨vs, rv, qv⟩ := sq_in I sy
    obtain ⟨u, hu, r1⟩ := ru.get hx
    obtain ⟨v, hv, r2⟩ := rv.get hy
    refine zn_pyNext D hz hTI hTO p1 p2 qu qv (x := u) (y := v) (by simpa using hu) (by simpa using hv) fun h₁ hz₁ hTO₁ p1₁ p2₁ hT n rest => ⟨_, rfl, zn_own (s := { s with heap := h₁ }) hz₁ fun h₂ hz₂ e₂ => ?_⟩
    have lz : z < s.heap.objs.size := by obtain ⟨_, _, _, q⟩ := hz; exact Heap.lt_size q
    have hT₂ : IsPair h₂ s.heap.objs.size u v := eb e₂ (Nat.ne_of_gt lz) hT
    have keep : ∀ c o, c ∉ [z, TI, TO, i1, i2] → s.heap.get? c = some o → h₂.get? c = some o := fun c o hn q => by
      simp only [List.mem_cons, List.not_mem_nil, or_false, not_or] at hn
      exact eb e₂ hn.1 (rest c o hn.1 hn.2.2.1 hn.2.2.2.1 hn.2.2.2.2 q)
    have new : ObjOk X.prog X.w (upd H s.heap.objs.size (.tup [x, y])) h₂ s.heap.objs.size (.tup [x, y]) := ⟨by show 2 ≤ sizeLine; decide, [u, v], .cons r1 (.cons r2 .nil), ⟨_, hT₂, rfl, _, rfl⟩⟩
    have I₂ : Inv X pins σ (upd H s.heap.objs.size (.tup [x, y])) { s with heap := h₂ } := I.turnedNew (t' := s.toks) (ch := [z, TI, TO, i1, i2]) keep hf (Nat.le_refl _) new
    have hTI₁ : IsPair h₁ TI (.ref i1) (.ref i2) := rest _ _ D.TIz D.TITO D.TIi1 D.TIi2 hTI
    obtain ⟨g, g', hTO₁⟩ := hTO₁
    refine ⟨.ref s.heap.objs.size, _, I₂, rfl, ⟨_, x, y, rfl, I.hok.fresh (Nat.le_refl _), rfl, fun l hl => by rw [sq_one I hl sx]; exact hx, fun l hl => by rw [sq_one I hl sy]; exact hy⟩, ⟨hz₂, eb e₂ D.TIz hTI₁, ⟨g, g', eb e₂ D.TOz hTO₁⟩, p1₁.at fun o q => eb e₂ D.i1z q, p2₁.at fun o q => eb e₂ D.i2z q⟩, fun c hcm => ?_⟩
    have lc : c < s.heap.objs.size := by
      rcases (show c = z ∨ c = TI ∨ c = TO ∨ c = i1 ∨ c = i2 by simpa using hcm) with rfl | rfl | rfl | rfl | rfl
      · exact lz
      · exact Heap.lt_size hTI
      · obtain ⟨_, _, q⟩ := hTO; exact Heap.lt_size q
      · obtain ⟨_, q, _⟩ := p1.there; exact Heap.lt_size q
      · obtain ⟨_, q, _⟩ := p2.there; exact Heap.lt_size q
    rw [upd_ne (Nat.ne_of_lt lc)]
    exact (hf c hcm).1
  done := by
    rintro X rfl rfl rfl hc i pins s σ H E I hf ⟨hz, hTI, hTO, p1, p2⟩ ⟨xs, ys, sx, sy, hend⟩
    obtain ⟨us, ru, qu⟩ := sq_in I sx
    obtain ⟨vs, rv, qv⟩ := sq_in I sy
    have lu := ru.length
    have lv := rv.length
    have he : us.toArray[i]? = none ∨ vs.toArray[i]? = none := hend.imp (fun q => by simp; omega) fun q => by simp; omega
    refine zn_pyStop (I.ok.hd hc) D hz hTI hTO p1 p2 qu qv he fun h₁ rest => ⟨rfl, I.turnedL (t' := s.toks) (ch := [z, TI, TO, i1, i2]) (fun c o hn q => ?_) hf⟩
    simp only [List.mem_cons, List.not_mem_nil, or_false, not_or] at hn
    exact rest c o hn.1 hn.2.2.1 hn.2.2.2.1 hn.2.2.2.2 q
  self := fun A i s Q E ⟨hz, _⟩ h => zn_pyIter hz h
end
def iZ (K : PySem.W.Frag) (ta : TA) : TI := fun σ H R => ta σ H fun vs H1 => ∃ (t1 t2 : Bool) (a b : Addr) (xs ys : List V), vs = [.ref a, .ref b] ∧ SqB t1 K H1 a xs ∧ SqB t2 K H1 b ys ∧ R (ItZ t1 t2 K a b) H1
theorem pi_Z {X : Cx} {e e2 tg : Expr} {ta : TA} {p pos : Pos} (hg : Gl X "zip") (hm : X.mg "zip" = none) (ha : PA X [e, e2] ta)
    (hs : starEach [e, e2] X.env = (false, eval e X.env) :: starEach [e2] X.env) (hpl : (backTo pos (starEach [e2] X.env)).any (·.1) = false) : PI X tg (.Call (.Name "zip" p) [e, e2] [] pos) (iZ X.K ta) := by
  refine ⟨fun pins s σ H R I h => ?_⟩
  refine Call_ (ld_blt I hg hm PyProof.Rows.boot_zip (PyProof.Rows.callWith_type1 (thn (ha.run pos pins s σ H _ I h) fun us s1 ⟨vs, H1, I1, r1, t1, t2, a, b, xs, ys, ex, sx, sy, q⟩ => ?_) hs hpl))
  subst ex
  rcases r1 with _ | ⟨ra, _ | ⟨rb, _ | _⟩⟩
  cases ra
  cases rb
  obtain ⟨us, ru, qu⟩ := sq_in I1 sx
  obtain ⟨vs, rv, qv⟩ := sq_in I1 sy
  refine zn_call qu qv fun h₁ hz hTI hTO p1 p2 up => zn_pyIter hz ?_
  refine ⟨s1.heap.objs.size + 4, [s1.heap.objs.size + 4, s1.heap.objs.size + 2, s1.heap.objs.size + 3, s1.heap.objs.size, s1.heap.objs.size + 1], _, _, H1, rfl, I1.kept (t' := s1.toks) up, turn_Z (PySem.W.ktu_apart s1.heap.objs.size a b qu.lt qv.lt), ⟨hz, hTI, hTO, p1, p2⟩, fun c hc => ?_, q⟩
  have le : s1.heap.objs.size ≤ c := by
    rcases (show c = s1.heap.objs.size + 4 ∨ c = s1.heap.objs.size + 2 ∨ c = s1.heap.objs.size + 3 ∨ c = s1.heap.objs.size ∨ c = s1.heap.objs.size + 1 by simpa using hc) with rfl | rfl | rfl | rfl | rfl <;> omega
  exact I1.fpOk le (I1.hok.fresh le)

/-! ### over data -/
/-- the items of a walked sequence at H -/
def Wk (K : PySem.W.Frag) (fa : Org) (t : Bool) (a : Addr) (α : List Addr) (H : Hp) (xs : List D) (grd : Mem → Prop) : Prop :=
  ∀ (H' : Hp) (α' : List Addr) (M' : Mem), Ext K H H' α α' → StR K fa α' H' M' → grd M' → ∃ vs, SqB t K H' a vs ∧ Rps K fa α' H' vs xs
theorem wk_of {K : PySem.W.Frag} {fa : Org} {α : List Addr} {H : Hp} {M : Mem} {v : V} {d : D} {xs : List D} (st : StR K fa α H M) (r : Rp K fa α H v d) (h : seqOf M d = some xs) :
    ∃ (t : Bool) (a : Addr) (vs : List V), v = .ref a ∧ SqB t K H a vs ∧ xs.length ≤ sizeLine ∧ Wk K fa t a α H xs (grdOf d xs) := by
  cases r with
  | @tup a vs ds s l r =>
    cases h
    exact ⟨true, a, vs, rfl, .inl (.inl s), by rw [← r.length]; exact l, fun H' α' M' e _ _ => ⟨vs, .inl (.inl (e.tup _ _ s)), r.mono e⟩⟩
  | @kup a vs ds s l r =>
    cases h
    exact ⟨true, a, vs, rfl, s H, by rw [← r.length]; exact l, fun H' α' M' e _ _ => ⟨vs, s H', r.mono e⟩⟩
  | @rol a vs ds s l r =>
    cases h
    have sq : ∀ H' α', Ext K H H' α α' → SqL K H' a vs := fun H' α' e => s.elim (fun ⟨o, z⟩ => .inl (.inr ⟨o, e.frz _ _ _ z⟩)) fun z => z H'
    exact ⟨false, a, vs, rfl, sq H α Ext.refl, by rw [← r.length]; exact l, fun H' α' M' e _ _ => ⟨vs, sq _ _ e, r.mono e⟩⟩
  | @ref n a ea =>
    have h : (match M[n]? with
      | some (.lst xs) => some xs
      | _ => none) = some xs := h
    split at h
    · rename_i ys q
      cases h
      obtain ⟨vs, hv, l, r⟩ := cell_l st ea q
      refine ⟨false, a, vs, rfl, .inl (.inl hv), by rw [← r.length]; exact l, fun H' α' M' e st' hg => ?_⟩
      obtain ⟨ws, hw, _, r2⟩ := st'.cell n _ a hg (e.at ea)
      exact ⟨ws, .inl (.inl hw), r2⟩
    · cases h
  | _ => cases h
def zipD (xs ys : List D) : List D := (xs.zip ys).map fun p => .tup [p.1, p.2]
def iZip (a b : DE) : DI := fun C ρ M P => a C ρ M fun d M1 => b C ρ M1 fun e M2 => match seqOf M2 d with
  | some xs => (match seqOf M2 e with
    | some ys => P (zipD xs ys) (fun M => grdOf d xs M ∧ grdOf e ys M) M2
    | none => False)
  | none => False
section
variable {K : PySem.W.Frag} {fa : Org} {α : List Addr} {H : Hp} {M : Mem}
theorem rps_get {vs : List V} {ds : List D} {i : Nat} {v : V} {d : D} (r : Rps K fa α H vs ds) (h1 : vs[i]? = some v) (h2 : ds[i]? = some d) : Rp K fa α H v d := by
  obtain ⟨w, e, r'⟩ := r.get h2
  rw [h1] at e
  cases e
  exact r'
theorem zipD_get {xs ys : List D} {i : Nat} {d : D} (h : (zipD xs ys)[i]? = some d) : ∃ x y, xs[i]? = some x ∧ ys[i]? = some y ∧ d = .tup [x, y] := by
  unfold zipD at h
  rw [List.getElem?_map] at h
  obtain ⟨p, h1, h2⟩ := Option.map_eq_some_iff.mp h
  obtain ⟨h3, h4⟩ := List.getElem?_zip_eq_some.mp h1
  exact ⟨p.1, p.2, h3, h4, h2.symm⟩
theorem upd_pair {T : Addr} {x y : V} {dx dy : D} (sr : StR K fa α H M) (hT : H T = none) (r1 : Rp K fa α H x dx) (r2 : Rp K fa α H y dy) : Ext K H (upd H T (.tup [x, y])) α α ∧ StR K fa α (upd H T (.tup [x, y])) M ∧ Rp K fa α (upd H T (.tup [x, y])) (.ref T) (.tup [dx, dy]) := by
  have e := Ext.new (K := K) (α := α) (o := .tup [x, y]) hT
  exact ⟨e, sr.new hT, .tup upd_same (by show 2 ≤ sizeLine; decide) (.cons (r1.mono e) (.cons (r2.mono e) .nil))⟩
theorem itok_Z {t1 t2 : Bool} {a b : Addr} {xs ys : List D} {g1 g2 : Mem → Prop} (l1 : xs.length ≤ sizeLine) (w1 : Wk K fa t1 a α H xs g1) (w2 : Wk K fa t2 b α H ys g2) : ItOk K fa (ItZ t1 t2 K a b) α H (zipD xs ys) (fun M => g1 M ∧ g2 M) := by
  have len : (zipD xs ys).length = min xs.length ys.length := by simp [zipD]
  refine ⟨by omega, fun H' α' M' e sr hg i => ?_⟩
  obtain ⟨us, su, ru⟩ := w1 H' α' M' e sr hg.1
  obtain ⟨vs, sv, rv⟩ := w2 H' α' M' e sr hg.2
  have lu := ru.length
  have lv := rv.length
  refine ⟨fun hi => ⟨us, vs, su, sv, by omega⟩, fun hi => ?_, fun x v H2 hx ⟨T, x', y', e1, hT, e2, h1, h2⟩ => ?_⟩
  · rw [len] at hi
    exact ⟨us, vs, us[i]'(by omega), vs[i]'(by omega), su, sv, List.getElem?_eq_getElem _, List.getElem?_eq_getElem _⟩
  · obtain ⟨dx, dy, gx, gy, rfl⟩ := zipD_get hx
    subst e1 e2
    exact upd_pair sr hT (rps_get ru (h1 us su) gx) (rps_get rv (h2 vs sv) gy)
theorem i_zip {X : Cx} {C : Ctx} {e e2 tg : Expr} {te tf : DE} {p pos : Pos} (hg : Gl X "zip") (hm : X.mg "zip" = none) (ha : PE X e (LE X.K fa C te)) (hb : PE X e2 (LE X.K fa C tf)) (hs : starEach [e, e2] X.env = (false, eval e X.env) :: starEach [e2] X.env) (hs2 : starEach [e2] X.env = [(false, eval e2 X.env)]) (hpl : (backTo pos (starEach [e2] X.env)).any (·.1) = false) :
    PI X tg (.Call (.Name "zip" p) [e, e2] [] pos) (LI X.K fa C (iZip te tf)) :=
  (pi_Z hg hm (pa_cons ha (pa_cons hb pa_nil hs2) hs) hs hpl).imp fun σ H R ⟨ρ, M, α, P, er, sr, h, k⟩ => ⟨ρ, M, α, _, er, sr, h, fun v d H1 α1 M1 e1 s1 r1 p1 => ⟨ρ, M1, α1, _, er.mono e1, s1, p1, fun w e H2 α2 M2 e2 s2 r2 p2 => by
    split at p2
    · rename_i xs q1
      split at p2
      · rename_i ys q2
        obtain ⟨t1, a, us, ea, su, l1, w1⟩ := wk_of s2 (r1.mono e2) q1
        obtain ⟨t2, b, vs, eb, sv, l2, w2⟩ := wk_of s2 r2 q2
        subst ea eb
        exact ⟨t1, t2, a, b, us, vs, rfl, su, sv, k _ H2 α2 M2 _ _ (e1.trans e2) s2 (itok_Z l1 w1 w2) p2⟩
      · exact p2.elim
    · exact p2.elim⟩⟩
end
end DL
/-! The data layer: enumerate over lists and tuples. -/
namespace DL
open PySem PySem.Spec PyProof.Rows L2
open Sem (wp)

def eO (f0 f1 : Value) (it : Addr) (i : Int) (old : Value) : Obj := { cls := .type "enumerate", dict := none, data := .fields #[f0, f1, .ref it, rawInt i, .none, old], slots := #[] }
def EN (h : Heap) (e it : Addr) (i : Int) : Prop := ∃ f0 f1 old : Value, (f0 = .none ∨ ∃ T : Nat, f0 = rawInt (T : Int)) ∧ h.get? e = some (eO f0 f1 it i old)
section
variable {prog : Program} {w : World} {A : Around} {E : Value → Shared → Prop} {s : Shared} {t : Bool} {e it l a : Addr} {k : Nat} {xs : Array Value} {x : Value}
theorem en_free {i : Int} {Q : Bool → Shared → Prop} (he : EN s.heap e it i) (go : ∀ b h', EN h' e it i → Heap.ExtBut e s.heap h' → h'.objs.size = s.heap.objs.size → Q b { s with heap := h' }) :
    wpAny (model prog w) A (Builtin.SmallTypes.ownedTupleIsFree (.ref e)) Q E s := by
  obtain ⟨f0, f1, old, hf, hz⟩ := he
  unfold Builtin.SmallTypes.ownedTupleIsFree
  refine wpAny_bind (wpAny_field (vs := #[f0, f1, .ref it, rawInt i, .none, old]) hz rfl (i := 0) (x := f0) rfl ?_)
  have same : Heap.ExtBut e s.heap s.heap := fun _ _ _ q => q
  rcases hf with q | ⟨T, q⟩
  · subst q
    exact wpAny_pure (go true s.heap ⟨_, _, _, .inl rfl, hz⟩ same rfl)
  · subst q
    show wpAny _ _ (loadIfAlive ((T : Int).toNat) >>= _) _ _ _
    rw [Int.toNat_natCast]
    have cut : ∀ {k : Option Obj → Sem Bool}, wpAny (model prog w) A (k (s.heap.get? T)) Q E s → wpAny (model prog w) A (loadIfAlive T >>= k) Q E s := fun {k} hk => wpAny_bind (m := loadIfAlive T) (show wpAny (model prog w) A (loadIfAlive T) (fun r s' => wpAny (model prog w) A (k r) Q E s') E s from fun _ _ _ => hk)
    refine cut ?_
    cases hT : s.heap.get? T with
    | none => exact wpAny_pure (go true s.heap ⟨_, _, _, .inr ⟨T, rfl⟩, hz⟩ same rfl)
    | some oT =>
      simp only [Option.isNone_some, Bool.false_eq_true, if_false]
      refine wpAny_bind (wpAny_field (vs := #[rawInt (T : Int), f1, .ref it, rawInt i, .none, old]) hz rfl (i := 1) (x := f1) rfl ?_)
      by_cases hf1 : (f1 != .bool true) = true
      · rw [if_pos hf1]
        exact wpAny_bind (wpAny_setField_rec hz (by simp) fun h₁ hz₁ hs₁ => wpAny_pure (go false h₁ ⟨_, _, _, .inr ⟨T, rfl⟩, hz₁⟩ hs₁.extBut hs₁.1))
      · rw [if_neg hf1]
        exact wpAny_pure (go false s.heap ⟨_, _, _, .inr ⟨T, rfl⟩, hz⟩ same rfl)
abbrev Rest2 (h h' : Heap) (e it : Addr) : Prop := ∀ c o, c ≠ e → c ≠ it → h.get? c = some o → h'.get? c = some o
theorem en_item {Q : Value → Shared → Prop} (he : EN s.heap e it (k : Nat)) (p : ItAt t s.heap it l k) (q : SqAt t s.heap l xs) (hx : xs[k]? = some x) (hne : e ≠ it)
    (go : ∀ h', EN h' e it ((k + 1 : Nat) : Int) → ItAt t h' it l (k + 1) → IsPair h' s.heap.objs.size (.int (k : Nat) s.toks) x → h'.objs.size = s.heap.objs.size + 1 → Rest2 s.heap h' e it → Q (.ref s.heap.objs.size) { s with heap := h', toks := s.toks + 1 }) :
    wpAny (model prog w) A (Builtin.«enumerate.__next__» ⟨[.ref e], []⟩) (fun fin s' => ∃ v, fin = .done (.ret v) ∧ Q v s') E s := by
  obtain ⟨f0, f1, old, hf, he⟩ := he
  obtain ⟨hp, g, d, tk, os⟩ := s
  show wpAny _ _ (field (.ref e) 2 >>= _) _ _ _
  refine wpAny_bind (wpAny_field (vs := #[f0, f1, .ref it, rawInt (k : Nat), .none, old]) he rfl (x := .ref it) rfl (wpAny_bind (draw_item p q hx fun h₁ p₁ e₁ n₁ => ?_)))
  have he₁ : h₁.get? e = some (eO f0 f1 it (k : Nat) old) := eb e₁ hne he
  show wpAny _ _ (field (.ref e) 3 >>= _) _ _ _
  refine wpAny_bind (wpAny_field (vs := #[f0, f1, .ref it, rawInt (k : Nat), .none, old]) he₁ rfl (x := rawInt (k : Nat)) rfl ?_)
  show wpAny _ _ (field (.ref e) 4 >>= _) _ _ _
  refine wpAny_bind (wpAny_field (vs := #[f0, f1, .ref it, rawInt (k : Nat), .none, old]) he₁ rfl (x := .none) rfl ?_)
  show wpAny _ _ (mkInt (k : Nat) >>= _) _ _ ⟨h₁, g, d, tk, os⟩
  refine wpAny_bind (wpAny_mkInt ?_)
  show wpAny _ _ (setField (.ref e) 3 (rawInt (((k : Nat) : Int) + 1)) >>= _) _ _ ⟨h₁, g, d, tk + 1, os⟩
  refine wpAny_bind (wpAny_setField_rec he₁ (by simp) fun h₂ he₂ s₂ => ?_)
  have he₂ : h₂.get? e = some (eO f0 f1 it (((k : Nat) : Int) + 1) old) := he₂
  show wpAny _ _ (setField (.ref e) 4 .none >>= _) _ _ ⟨h₂, g, d, tk + 1, os⟩
  refine wpAny_bind (wpAny_setField_rec he₂ (by simp) fun h₃ he₃ s₃ => ?_)
  have he₃ : h₃.get? e = some (eO f0 f1 it (((k : Nat) : Int) + 1) old) := he₃
  show wpAny _ _ (newTuple [.int (k : Nat) tk, x] >>= _) _ _ ⟨h₃, g, d, tk + 1, os⟩
  refine wpAny_bind (wpAny_newTuple ?_)
  have n : h₃.objs.size = hp.objs.size := s₃.1.trans (s₂.1.trans n₁)
  have pr : IsPair (h₃.push { cls := .type "tuple", data := .seq #[.int (k : Nat) tk, x] }) h₃.objs.size (.int (k : Nat) tk) x := Heap.get?_push_size _ rfl
  have hn : (h₃.push { cls := .type "tuple", data := .seq #[.int (k : Nat) tk, x] }).objs.size = h₃.objs.size + 1 := Heap.size_push ..
  have up : ∀ c o, h₃.get? c = some o → (h₃.push { cls := .type "tuple", data := .seq #[.int (k : Nat) tk, x] }).get? c = some o := fun c o z => Heap.get?_push_of_some _ z
  have one : (((k : Nat) : Int) + 1) = ((k + 1 : Nat) : Int) := by omega
  rw [one] at he₃
  have le : e < hp.objs.size := Heap.lt_size he
  have ne : hp.objs.size ≠ e := Nat.ne_of_gt le
  rw [n] at pr hn
  generalize hG : (h₃.push { cls := .type "tuple", data := .seq #[.int (k : Nat) tk, x] }) = h₄ at pr hn up
  show wpAny _ _ (Builtin.SmallTypes.ownedTupleIsFree (.ref e) >>= _) _ _ ⟨h₄, g, d, tk + 1, os⟩
  rw [n]
  have p₄ : ItAt t h₄ it l (k + 1) := p₁.at fun o z => up _ _ (eb s₃.extBut (Ne.symm hne) (eb s₂.extBut (Ne.symm hne) z))
  have r₄ : Rest2 hp h₄ e it := fun c o c1 c2 z => up _ _ (eb s₃.extBut c1 (eb s₂.extBut c1 (eb e₁ c2 z)))
  refine wpAny_bind (en_free (s := ⟨h₄, g, d, tk + 1, os⟩) ⟨f0, f1, old, hf, up _ _ he₃⟩ fun b h₅ he₅ e₅ n₅ => ?_)
  have hp₅ : IsPair h₅ hp.objs.size (.int (k : Nat) tk) x := eb e₅ ne pr
  have p₅ : ItAt t h₅ it l (k + 1) := p₄.at fun o z => eb e₅ (Ne.symm hne) z
  have r₅ : Rest2 hp h₅ e it := fun c o c1 c2 z => eb e₅ c1 (r₄ c o c1 c2 z)
  have n₆ : h₅.objs.size = hp.objs.size + 1 := n₅.trans hn
  cases b with
  | false =>
    simp only [Bool.false_eq_true, if_false]
    exact wpAny_pure ⟨_, rfl, go h₅ he₅ p₅ hp₅ n₆ r₅⟩
  | true =>
    simp only [if_true]
    obtain ⟨g0, g1, old', hg, he₅⟩ := he₅
    refine wpAny_bind (wpAny_rule (wpAny_bind (wpAny_field (vs := #[g0, g1, .ref it, rawInt ((k + 1 : Nat) : Int), .none, old']) he₅ rfl (x := old') rfl ?_)))
    refine wpAny_bind (wpAny_setField_rec he₅ (by simp) fun h₆ he₆ s₆ => ?_)
    have he₆ : h₆.get? e = some (eO g0 g1 it ((k + 1 : Nat) : Int) x) := he₆
    show wpAny _ _ (Builtin.SmallTypes.ownedTupleHandOut (.ref e) (.ref hp.objs.size) >>= _) _ _ _
    refine wpAny_bind ?_
    unfold Builtin.SmallTypes.ownedTupleHandOut
    refine wpAny_bind (wpAny_setField_rec he₆ (by simp) fun h₇ he₇ s₇ => ?_)
    have he₇ : h₇.get? e = some (eO (rawInt (hp.objs.size : Nat)) g1 it ((k + 1 : Nat) : Int) x) := he₇
    refine wpAny_setField_rec he₇ (by simp) fun h₈ he₈ s₈ => ?_
    have he₈ : h₈.get? e = some (eO (rawInt (hp.objs.size : Nat)) (.bool false) it ((k + 1 : Nat) : Int) x) := he₈
    refine wpAny_bind (wpAny_letGo (wpAny_pure ⟨_, rfl, go h₈ ⟨_, _, _, .inr ⟨_, rfl⟩, he₈⟩ (p₅.at fun o z => eb s₈.extBut (Ne.symm hne) (eb s₇.extBut (Ne.symm hne) (eb s₆.extBut (Ne.symm hne) z))) ?_ ?_ fun c o c1 c2 z => eb s₈.extBut c1 (eb s₇.extBut c1 (eb s₆.extBut c1 (r₅ c o c1 c2 z)))⟩))
    · exact eb s₈.extBut ne (eb s₇.extBut ne (eb s₆.extBut ne hp₅))
    · exact s₈.1.trans (s₇.1.trans (s₆.1.trans n₆))
theorem en_pyNext {Q : Option Value → Shared → Prop} (he : EN s.heap e it (k : Nat)) (p : ItAt t s.heap it l k) (q : SqAt t s.heap l xs) (hx : xs[k]? = some x) (hne : e ≠ it)
    (go : ∀ h', EN h' e it ((k + 1 : Nat) : Int) → ItAt t h' it l (k + 1) → IsPair h' s.heap.objs.size (.int (k : Nat) s.toks) x → h'.objs.size = s.heap.objs.size + 1 → Rest2 s.heap h' e it → Q (some (.ref s.heap.objs.size)) { s with heap := h', toks := s.toks + 1 }) :
    wpAny (model prog w) A (pyNext (.ref e)) Q E s := by
  have ty : s.TypeIs (.ref e) "enumerate" := by obtain ⟨_, _, _, _, h⟩ := he; exact ⟨_, h, rfl⟩
  unfold pyNext
  exact wpAny_bind (wpAny_attempt (wpAny_callSpecial?_slot (name := Str.ofString "__next__") ty F.slot_enumerate_next (wpAny_call_entry F.slot_enumerate_next ty F.entry_enumerate_next
    (en_item he p q hx hne fun h' a b c d r => wpAny_pure (go h' a b c d r)) (F.args_enumerate_next_1 _))))
theorem en_pyStop {Q : Option Value → Shared → Prop} (hh : A.handled = none) (he : EN s.heap e it (k : Nat)) (p : ItAt t s.heap it l k) (q : SqAt t s.heap l xs) (hx : xs[k]? = none) (go : ∀ h', Heap.ExtBut it s.heap h' → Q none { s with heap := h' }) :
    wpAny (model prog w) A (pyNext (.ref e)) Q E s := by
  have ty : s.TypeIs (.ref e) "enumerate" := by obtain ⟨_, _, _, _, h⟩ := he; exact ⟨_, h, rfl⟩
  obtain ⟨f0, f1, old, hf, he⟩ := he
  unfold pyNext
  refine wpAny_bind (wpAny_attempt (wpAny_callSpecial?_slot (name := Str.ofString "__next__") ty F.slot_enumerate_next (wpAny_call_entry F.slot_enumerate_next ty F.entry_enumerate_next ?_ (F.args_enumerate_next_1 _))))
  show wpAny _ _ (field (.ref e) 2 >>= _) _ _ _
  refine wpAny_bind (wpAny_field (vs := #[f0, f1, .ref it, rawInt (k : Nat), .none, old]) he rfl (x := .ref it) rfl (wpAny_bind (draw_end hh p q hx fun h₁ x e₁ hs => ?_)))
  obtain ⟨o, ho, hc⟩ := hs
  exact wpAny_bind (wpAny_isInstance (T := "StopIteration") (b := true) ⟨o, ho, hc⟩ isSubtype_stop (wpAny_pure (go h₁ e₁)))
theorem en_own {tg : Expr} {i : Int} {Q : Unit → Shared → Prop} (he : EN s.heap e it i) (go : ∀ h', EN h' e it i → Heap.ExtBut e s.heap h' → Q () { s with heap := h' }) : wpAny (model prog w) A (letOwnedTupleGo tg (.ref e) (.ref a)) Q E s := by
  obtain ⟨f0, f1, old, hf, he'⟩ := he
  refine own_go he' rfl rfl ⟨a, rfl⟩ (go s.heap ⟨f0, f1, old, hf, he'⟩ fun _ _ _ z => z) ?_
  show wpAny _ _ (setField (.ref e) 0 .none) Q E s
  exact wpAny_setField_rec he' (by simp) fun h₁ he₁ s₁ => go h₁ ⟨_, _, _, .inl rfl, he₁⟩ s₁.extBut
theorem en_pyIter {i : Int} {Q : Value → Shared → Prop} (he : EN s.heap e it i) (h : Q (.ref e) s) : wpAny (model prog w) A (pyIter (.ref e)) Q E s := by
  have ty : s.TypeIs (.ref e) "enumerate" := by obtain ⟨_, _, _, _, z⟩ := he; exact ⟨_, z, rfl⟩
  refine wpAny_pyIter_slot ty F.slot_enumerate_iter (wpAny_call_entry F.slot_enumerate_iter ty F.entry_enumerate_iter ?_ (F.args_enumerate_iter_1 _))
  show wpAny _ _ (ret (.ref e)) _ _ s
  exact wpAny_pure ⟨_, rfl, "enumerate", _, ty, F.slot_enumerate_next.lookup, h⟩
end

/-! ### an enumerate is made -/
theorem en_meets (l : Addr) (xs : Array Value) (n : Nat) (dct : Option Addr) (sl : Array (Option Value)) :
    Meets (Builtin.«enumerate.__new__» ⟨[.type "enumerate", .ref l], []⟩) (fun _ R s => s.heap.get? l = some { cls := .type "tuple", dict := dct, data := .seq xs n, slots := sl } ∧
      R (.ok (.ret (.ref (zH1 true s.heap l).objs.size))) { s with heap := (zH1 true s.heap l).push (eO .none (.bool false) s.heap.objs.size 0 .none) }) := .of_wp fun prog w A R s h => by
  obtain ⟨hp, g, d, tk, os⟩ := s
  obtain ⟨hl, h⟩ := h
  have sb := sub_enumerate
  have b1 : Heap.IsTuple (Shared.heap ⟨hp, g, d, tk, os⟩) l xs := ⟨_, hl, rfl, _, rfl⟩
  wp_walk using wpAny_loadPart' hl
  refine wpAny_stack_any fun st => wpAny_pure ?_
  split
  · rename_i c _ _ _ _ _
    cases (c == Value.type "enumerate")
    · wp_walk using wpAny_loadPart' hl, wpAny_pyIter_tuple b1
      exact ⟨_, rfl, h⟩
    · wp_walk using wpAny_loadPart' hl, wpAny_pyIter_tuple b1
      exact ⟨_, rfl, h⟩
  · wp_walk using wpAny_loadPart' hl, wpAny_pyIter_tuple b1
    exact ⟨_, rfl, h⟩

section
variable {prog : Program} {w : World} {A : Around} {E : Value → Shared → Prop} {s : Shared} {t : Bool} {l : Addr} {xs : Array Value}
theorem en_call {Q : Value → Shared → Prop} (q : SqAt t s.heap l xs) (go : ∀ h', EN h' (s.heap.objs.size + 1) s.heap.objs.size ((0 : Nat) : Int) → ItAt t h' s.heap.objs.size l 0 → (∀ c o, s.heap.get? c = some o → h'.get? c = some o) → Q (.ref (s.heap.objs.size + 1)) { s with heap := h' }) :
    wpAny (model prog w) A (call (.type "enumerate") [.ref l]) Q E s := by
  cases t with
  | false => exact call_enumerate_list (show s.heap.IsList l xs from q) fun h' he hi _ up => go h' ⟨_, _, _, .inl rfl, he⟩ hi up
  | true =>
    obtain ⟨⟨c, dct, dt, sl⟩, hl, hc, n, hd⟩ := (show s.heap.IsTuple l xs from q)
    have hc : c = .type "tuple" := hc
    have hd : dt = .seq xs n := hd
    subst hc hd
    refine callType_new F.called_enumerate (by decide) (F.typeCall_enumerate_1 _) (F.newCall_enumerate_1 _) (fun obj => F.args_object_init_2 obj _) F.entry_enumerate_new (en_meets l xs n dct sl) ⟨hl, ?_⟩
    have n1 : (zH1 true s.heap l).objs.size = s.heap.objs.size + 1 := Heap.size_push ..
    have g : ((zH1 true s.heap l).push (eO .none (.bool false) s.heap.objs.size 0 .none)).get? (zH1 true s.heap l).objs.size = some (eO .none (.bool false) s.heap.objs.size 0 .none) := Heap.get?_push_size _ rfl
    have g1 : ((zH1 true s.heap l).push (eO .none (.bool false) s.heap.objs.size 0 .none)).get? s.heap.objs.size = some (itO true l) := Heap.get?_push_of_some _ (Heap.get?_push_size _ rfl)
    show _ ∧ _
    rw [n1] at g ⊢
    exact ⟨⟨_, g, rfl⟩, go _ ⟨_, _, _, .inl rfl, g⟩ (it_new g1) fun c o z => Heap.get?_push_of_some _ (Heap.get?_push_of_some _ z)⟩
end
/-- the sequence at a as it stands at each turn, each item in a new pair -/
def ItE (t : Bool) (K : PySem.W.Frag) (a : Addr) : It where
  go := fun i H => ∃ (xs : List V) (x : V), SqB t K H a xs ∧ xs[i]? = some x
  yld := fun i H v H' => ∃ T x, v = .ref T ∧ H T = none ∧ H' = upd H T (.tup [.int (i : Nat), x]) ∧ ∀ xs, SqB t K H a xs → xs[i]? = some x
  stop := fun i H => ∃ xs : List V, SqB t K H a xs ∧ xs.length ≤ i
section
variable {X : Cx} {pins : List (Addr × Obj)} {σ : L2.St} {H : Hp} {s : Shared} {t : Bool} {a b : Addr} {xs ys : List V}
theorem turn_E {P : Program} {w : World} {K : PySem.W.Frag} {tg : Expr} {e it : Addr} (hne : e ≠ it) : Turn P w K tg (ItE t K a) [e, it] e (fun i h => EN h e it (i : Nat) ∧ ItAt t h it a i) where
  mem := List.mem_cons_self
  obj := fun i h ⟨⟨f0, f1, old, _, he⟩, p⟩ c hc => by
    rcases (show c = e ∨ c = it by simpa using hc) with rfl | rfl
    · exact ⟨_, he, fun _ q => nomatch q⟩
    · exact p.there
  keep := fun i h h' ⟨⟨f0, f1, old, hf, he⟩, p⟩ k => ⟨⟨f0, f1, old, hf, k _ (by simp) _ he⟩, p.at fun o q => k _ (by simp) o q⟩
  item := by
    rintro X rfl rfl rfl hc i pins s σ H E I hf ⟨he, p⟩ ⟨xs, x, sx, hx⟩
    obtain ⟨us, ru, qu⟩ := sq_in I sx
    obtain ⟨u, hu, r1⟩ := ru.get hx
    refine en_pyNext he p qu (x := u) (by simpa using hu) hne fun h₁ he₁ p₁ hT n rest => ⟨_, rfl, en_own (s := { s with heap := h₁, toks := s.toks + 1 }) he₁ fun h₂ he₂ e₂ => ?_⟩
    have le : e < s.heap.objs.size := by obtain ⟨_, _, _, _, q⟩ := he; exact Heap.lt_size q
    have hT₂ : IsPair h₂ s.heap.objs.size (.int (i : Nat) s.toks) u := eb e₂ (Nat.ne_of_gt le) hT
    have keep : ∀ c o, c ∉ [e, it] → s.heap.get? c = some o → h₂.get? c = some o := fun c o hn q => by
      simp only [List.mem_cons, List.not_mem_nil, or_false, not_or] at hn
      exact eb e₂ hn.1 (rest c o hn.1 hn.2 q)
    have new : ObjOk X.prog X.w (upd H s.heap.objs.size (.tup [.int (i : Nat), x])) h₂ s.heap.objs.size (.tup [.int (i : Nat), x]) := ⟨by show 2 ≤ sizeLine; decide, [.int (i : Nat) s.toks, u], .cons ⟨_, rfl⟩ (.cons r1 .nil), ⟨_, hT₂, rfl, _, rfl⟩⟩
    have I₂ : Inv X pins σ (upd H s.heap.objs.size (.tup [.int (i : Nat), x])) { s with heap := h₂, toks := s.toks + 1 } := I.turnedNew (ch := [e, it]) keep hf (Nat.le_refl _) new
    refine ⟨.ref s.heap.objs.size, _, I₂, rfl, ⟨_, x, rfl, I.hok.fresh (Nat.le_refl _), rfl, fun l hl => by rw [sq_one I hl sx]; exact hx⟩, ⟨he₂, p₁.at fun o q => eb e₂ (Ne.symm hne) q⟩, fun c hcm => ?_⟩
    have lc : c < s.heap.objs.size := by
      rcases (show c = e ∨ c = it by simpa using hcm) with rfl | rfl
      · exact le
      · obtain ⟨_, q, _⟩ := p.there; exact Heap.lt_size q
    rw [upd_ne (Nat.ne_of_lt lc)]
    exact (hf c hcm).1
  done := by
    rintro X rfl rfl rfl hc i pins s σ H E I hf ⟨he, p⟩ ⟨xs, sx, hend⟩
    obtain ⟨us, ru, qu⟩ := sq_in I sx
    have lu := ru.length
    refine en_pyStop (I.ok.hd hc) he p qu (by simp; omega) fun h₁ e₁ => ⟨rfl, I.turnedL (t' := s.toks) (ch := [e, it]) (fun c o hn q => ?_) hf⟩
    simp only [List.mem_cons, List.not_mem_nil, or_false, not_or] at hn
    exact eb e₁ hn.2 q
  self := fun A i s Q E ⟨he, _⟩ h => en_pyIter he h
def iE (K : PySem.W.Frag) (ta : TA) : TI := fun σ H R => ta σ H fun vs H1 => ∃ (t : Bool) (a : Addr) (xs : List V), vs = [.ref a] ∧ SqB t K H1 a xs ∧ R (ItE t K a) H1
theorem pi_E {X : Cx} {e tg : Expr} {ta : TA} {p pos : Pos} (hg : Gl X "enumerate") (hm : X.mg "enumerate" = none) (ha : PA X [e] ta) (hs : starEach [e] X.env = [(false, eval e X.env)]) : PI X tg (.Call (.Name "enumerate" p) [e] [] pos) (iE X.K ta) := by
  refine ⟨fun pins s σ H R I h => ?_⟩
  refine Call_ (ld_blt I hg hm boot_enumerate (PyProof.Rows.callWith_type1 (thn (ha.run pos pins s σ H _ I h) fun us s1 ⟨vs, H1, I1, r1, t, a, xs, ex, sx, q⟩ => ?_) hs rfl))
  subst ex
  rcases r1 with _ | ⟨ra, _ | _⟩
  cases ra
  obtain ⟨us, ru, qu⟩ := sq_in I1 sx
  refine en_call qu fun h₁ he p up => en_pyIter he ?_
  refine ⟨s1.heap.objs.size + 1, [s1.heap.objs.size + 1, s1.heap.objs.size], _, _, H1, rfl, I1.kept (t' := s1.toks) up, turn_E (Nat.succ_ne_self _), ⟨he, p⟩, fun c hc => ?_, q⟩
  have le : s1.heap.objs.size ≤ c := by
    rcases (show c = s1.heap.objs.size + 1 ∨ c = s1.heap.objs.size by simpa using hc) with rfl | rfl <;> omega
  exact I1.fpOk le (I1.hok.fresh le)
end

/-! ### over data -/
def enumD : Nat → List D → List D
  | _, [] => []
  | k, x :: xs => .tup [.int (k : Nat), x] :: enumD (k + 1) xs
theorem enumD_len : ∀ (xs : List D) (k : Nat), (enumD k xs).length = xs.length
  | [], _ => rfl
  | _ :: xs, k => congrArg (· + 1) (enumD_len xs (k + 1))
theorem enumD_get : ∀ {xs : List D} {k i : Nat} {d : D}, (enumD k xs)[i]? = some d → ∃ x, xs[i]? = some x ∧ d = .tup [.int ((k + i : Nat) : Int), x]
  | [], _, _, _, h => by simp [enumD] at h
  | x :: xs, k, 0, d, h => by
    refine ⟨x, rfl, ?_⟩
    have h : some (D.tup [.int (k : Nat), x]) = some d := h
    exact (Option.some.inj h).symm
  | x :: xs, k, i + 1, d, h => by
    have h : (enumD (k + 1) xs)[i]? = some d := by simpa [enumD] using h
    obtain ⟨y, e1, e2⟩ := enumD_get h
    refine ⟨y, by simpa using e1, ?_⟩
    rw [e2, show k + 1 + i = k + (i + 1) by omega]
def iEnumD (a : DE) : DI := fun C ρ M P => a C ρ M fun d M1 => match seqOf M1 d with
  | some xs => P (enumD 0 xs) (grdOf d xs) M1
  | none => False
section
variable {K : PySem.W.Frag} {fa : Org} {α : List Addr} {H : Hp} {M : Mem}
theorem itok_E {t : Bool} {a : Addr} {xs : List D} {g : Mem → Prop} (l : xs.length ≤ sizeLine) (w : Wk K fa t a α H xs g) : ItOk K fa (ItE t K a) α H (enumD 0 xs) g := by
  have len := enumD_len xs 0
  refine ⟨by omega, fun H' α' M' e sr hg i => ?_⟩
  obtain ⟨us, su, ru⟩ := w H' α' M' e sr hg
  have lu := ru.length
  refine ⟨fun hi => ⟨us, su, by omega⟩, fun hi => ?_, fun x v H2 hx ⟨T, x', e1, hT, e2, h1⟩ => ?_⟩
  · rw [len] at hi
    exact ⟨us, us[i]'(by omega), su, List.getElem?_eq_getElem _⟩
  · obtain ⟨dx, gx, rfl⟩ := enumD_get hx
    subst e1 e2
    rw [Nat.zero_add]
    exact upd_pair sr hT (.int _) (rps_get ru (h1 us su) gx)
theorem i_enum {X : Cx} {C : Ctx} {e tg : Expr} {te : DE} {p pos : Pos} (hg : Gl X "enumerate") (hm : X.mg "enumerate" = none) (ha : PE X e (LE X.K fa C te)) (hs : starEach [e] X.env = [(false, eval e X.env)]) : PI X tg (.Call (.Name "enumerate" p) [e] [] pos) (LI X.K fa C (iEnumD te)) :=
  (pi_E hg hm (pa_cons ha pa_nil hs) hs).imp fun σ H R ⟨ρ, M, α, P, er, sr, h, k⟩ => ⟨ρ, M, α, _, er, sr, h, fun v d H1 α1 M1 e1 s1 r1 p1 => by
    split at p1
    · rename_i xs q
      obtain ⟨t, a, us, ea, su, l, w⟩ := wk_of s1 r1 q
      subst ea
      exact ⟨t, a, us, rfl, su, k _ H1 α1 M1 _ _ e1 s1 (itok_E l w) p1⟩
    · exact p1.elim⟩
end
end DL
/-! The data layer: ranges made lists, consumers of tuples, count, index, lists compared; the compiler's further steps. -/
namespace DL
open PySem PySem.Spec PyProof.Rows L2

/-! ### list(range(..)), tuple(range(..)) -/
abbrev DRg := Ctx → Env → Mem → (Int → Int → Mem → Prop) → Prop
def LRg (K : PySem.W.Frag) (fa : Org) (C : Ctx) (t : DRg) : L2.St → Hp → (Int → Int → Hp → Prop) → Prop := fun σ H Q => ∃ (ρ : Env) (M : Mem) (α : List Addr) (P : Int → Int → Mem → Prop), EnvR K fa α H σ ρ ∧ StR K fa α H M ∧ t C ρ M P ∧
  ∀ (i j : Int) (H' : Hp) (α' : List Addr) (M' : Mem), Ext K H H' α α' → StR K fa α' H' M' → P i j M' → Q i j H'
def rg1 (a : DE) : DRg := fun C ρ M P => a C ρ M fun d M1 => match d with
  | .int n => P 0 n M1
  | _ => False
def rg2 (a b : DE) : DRg := fun C ρ M P => a C ρ M fun d M1 => b C ρ M1 fun e M2 => match d, e with
  | .int i, .int j => P i j M2
  | _, _ => False
def RgB (i j : Int) : Prop := -(2 ^ 62) ≤ i ∧ i < 2 ^ 62 ∧ -(2 ^ 62) ≤ j ∧ j < 2 ^ 62 ∧ (j - i).toNat ≤ 2 ^ 24
def eLstRg (r : DRg) : DE := fun C ρ M P => r C ρ M fun i j M1 => RgB i j ∧ P (.ref M1.length) (M1 ++ [.lst (rngI i (j - i).toNat)])
def eTupRg (r : DRg) : DE := fun C ρ M P => r C ρ M fun i j M1 => RgB i j ∧ P (.tup (rngI i (j - i).toNat)) M1
section
variable {X : Cx} {fa : Org} {C : Ctx} {a b e : Expr} {pos p : Pos} {ta tb : DE} {r : DRg}
theorem PRg.imp {t t' : L2.St → Hp → (Int → Int → Hp → Prop) → Prop} (h : PRg X e t) (g : ∀ σ H Q, t' σ H Q → t σ H Q) : PRg X e t' := fun pins s σ H Q I q => h pins s σ H Q I (g σ H Q q)
theorem r_1 (hg : Gl X "range") (hm : X.mg "range" = none) (ha : PE X a (LE X.K fa C ta)) (na : starEach [a] X.env = (false, eval a X.env) :: starEach [] X.env) : PRg X (.Call (.Name "range" p) [a] [] pos) (LRg X.K fa C (rg1 ta)) :=
  PRg.imp (prg_1 hg hm ha na) fun σ H Q ⟨ρ, M, α, P, er, sr, h, k⟩ => ⟨ρ, M, α, _, er, sr, h, fun v d H1 α1 M1 e1 s1 r1 p1 => by
    cases r1 <;> first | exact (show False from p1).elim | skip
    exact ⟨_, rfl, k _ _ H1 α1 M1 e1 s1 p1⟩⟩
theorem r_2 (hg : Gl X "range") (hm : X.mg "range" = none) (ha : PE X a (LE X.K fa C ta)) (hb : PE X b (LE X.K fa C tb)) (na : starEach [a, b] X.env = (false, eval a X.env) :: starEach [b] X.env) (nb : starEach [b] X.env = (false, eval b X.env) :: starEach [] X.env)
    (hp : (backTo pos (starEach [b] X.env)).any (·.1) = false) : PRg X (.Call (.Name "range" p) [a, b] [] pos) (LRg X.K fa C (rg2 ta tb)) :=
  PRg.imp (prg_2 hg hm ha hb na nb hp) fun σ H Q ⟨ρ, M, α, P, er, sr, h, k⟩ => ⟨ρ, M, α, _, er, sr, h, fun v d H1 α1 M1 e1 s1 r1 p1 => ⟨ρ, M1, α1, _, er.mono e1, s1, p1, fun w f H2 α2 M2 e2 s2 r2 p2 => by
    cases r1 <;> cases r2 <;> first | exact (show False from p2).elim | skip
    exact ⟨_, _, rfl, rfl, k _ _ H2 α2 M2 (e1.trans e2) s2 p2⟩⟩⟩
theorem rgV_rep {K : PySem.W.Frag} {α : List Addr} {H : Hp} (i j : Int) : Rps K fa α H (rgV i j) (rngI i (j - i).toNat) := by
  have e1 : rgV i j = ((List.range (j - i).toNat).map fun (k : Nat) => i + (k : Int)).map V.int := by unfold rgV; rw [List.map_map]; rfl
  have e2 : rngI i (j - i).toNat = ((List.range (j - i).toNat).map fun (k : Nat) => i + (k : Int)).map D.int := by unfold rngI; rw [List.map_map]; rfl
  rw [e1, e2]
  exact Rps.ints _
theorem RgB.len {i j : Int} (h : RgB i j) : (rgV i j).length ≤ sizeLine := by
  rw [rgV_length, sizeLine_eq]
  exact h.2.2.2.2
theorem d_lstRg (hc : X.calm = true) (hg : Gl X "list") (hm : X.mg "list" = none) (he : PRg X e (LRg X.K fa C r)) (na : starEach [e] X.env = (false, eval e X.env) :: starEach [] X.env) : PE X (.Call (.Name "list" p) [e] [] pos) (LE X.K fa C (eLstRg r)) :=
  (pe_listRg hc hg hm he na).imp fun σ H Q ⟨ρ, M, α, P, er, sr, h, an⟩ => ⟨ρ, M, α, _, er, sr, h, fun i j H1 α1 M1 e1 s1 p1 => ⟨p1.1, fun q hq => (an.ext e1).lst s1 (rgV_rep i j) (RgB.len p1.1) hq p1.2⟩⟩
theorem d_tupRg (hc : X.calm = true) (hg : Gl X "tuple") (hm : X.mg "tuple" = none) (he : PRg X e (LRg X.K fa C r)) (na : starEach [e] X.env = (false, eval e X.env) :: starEach [] X.env) : PE X (.Call (.Name "tuple" p) [e] [] pos) (LE X.K fa C (eTupRg r)) :=
  (pe_tupRg hc hg hm he na).imp fun σ H Q ⟨ρ, M, α, P, er, sr, h, an⟩ => ⟨ρ, M, α, _, er, sr, h, fun i j H1 α1 M1 e1 s1 p1 => ⟨p1.1, fun q hq => (an.ext e1).tup s1 (rgV_rep i j) (RgB.len p1.1) hq p1.2⟩⟩

/-! ### consumers over tuples of ints -/
theorem reads_of {h : Heap} : ∀ {ns : List Int} {us : List Value}, Vals (ns.map V.int) us → ReadsAll h us (ns.map PyData.int) []
  | [], _, .nil => .nil
  | n :: ns, _, .cons ⟨t, e⟩ r => by
    subst e
    exact ReadsAll.cons (.int n t) (reads_of r)
theorem alike_ints (ns : List Int) : PySem.W.AlikeAll (ns.map PyData.int) := by
  refine ⟨fun x hx y hy => ?_, fun x hx => ?_⟩
  · obtain ⟨a, _, rfl⟩ := List.mem_map.mp hx
    obtain ⟨b, _, rfl⟩ := List.mem_map.mp hy
    rfl
  · obtain ⟨a, _, rfl⟩ := List.mem_map.mp hx
    exact fun z => nomatch z
theorem depth_ints : ∀ ns : List Int, PyData.depthAll (ns.map PyData.int) ≤ 1
  | [] => by simp [PyData.depthAll]
  | n :: ns => by
    rw [List.map_cons]
    have := depth_ints ns
    simp only [PyData.depthAll, PyData.depth]
    omega
theorem maxL_fold : ∀ (ns : List Int) (n : Int), ns.foldl max n = maxL (n :: ns) := by
  intro ns n
  have h := maxL_mem (l := n :: ns) (by simp)
  have top : ∀ (ns : List Int) (n : Int), (n ≤ ns.foldl max n ∧ ∀ y ∈ ns, y ≤ ns.foldl max n) ∧ (ns.foldl max n = n ∨ ns.foldl max n ∈ ns) := by
    intro ns
    induction ns with
    | nil => intro n; exact ⟨⟨Int.le_refl _, fun y hy => by cases hy⟩, .inl rfl⟩
    | cons m ms ih =>
      intro n
      obtain ⟨⟨h1, h2⟩, h3⟩ := ih (max n m)
      rw [List.foldl_cons]
      refine ⟨⟨by omega, fun y hy => ?_⟩, ?_⟩
      · rcases List.mem_cons.mp hy with e | hy
        · subst e; omega
        · exact h2 y hy
      · rcases h3 with e | e
        · rw [e]
          rcases Int.le_total n m with z | z
          · right; rw [Int.max_eq_right z]; exact List.mem_cons_self
          · left; exact Int.max_eq_left z
        · right; exact List.mem_cons_of_mem _ e
  obtain ⟨⟨h1, h2⟩, h3⟩ := top ns n
  refine Int.le_antisymm (h.2 _ ?_) ?_
  · rcases h3 with e | e
    · rw [e]; exact List.mem_cons_self
    · exact List.mem_cons_of_mem _ e
  · rcases List.mem_cons.mp h.1 with e | e
    · rw [e]; exact h1
    · exact h2 _ e
theorem minL_fold : ∀ (ns : List Int) (n : Int), ns.foldl min n = minL (n :: ns) := by
  intro ns n
  have h := minL_mem (l := n :: ns) (by simp)
  have top : ∀ (ns : List Int) (n : Int), (ns.foldl min n ≤ n ∧ ∀ y ∈ ns, ns.foldl min n ≤ y) ∧ (ns.foldl min n = n ∨ ns.foldl min n ∈ ns) := by
    intro ns
    induction ns with
    | nil => intro n; exact ⟨⟨Int.le_refl _, fun y hy => by cases hy⟩, .inl rfl⟩
    | cons m ms ih =>
      intro n
      obtain ⟨⟨h1, h2⟩, h3⟩ := ih (min n m)
      rw [List.foldl_cons]
      refine ⟨⟨by omega, fun y hy => ?_⟩, ?_⟩
      · rcases List.mem_cons.mp hy with e | hy
        · subst e; omega
        · exact h2 y hy
      · rcases h3 with e | e
        · rw [e]
          rcases Int.le_total n m with z | z
          · left; exact Int.min_eq_left z
          · right; rw [Int.min_eq_right z]; exact List.mem_cons_self
        · right; exact List.mem_cons_of_mem _ e
  obtain ⟨⟨h1, h2⟩, h3⟩ := top ns n
  refine Int.le_antisymm ?_ (h.2 _ ?_)
  · rcases List.mem_cons.mp h.1 with e | e
    · rw [e]; exact h1
    · exact h2 _ e
  · rcases h3 with e | e
    · rw [e]; exact List.mem_cons_self
    · exact List.mem_cons_of_mem _ e
theorem c_maxT (hc : X.calm = true) (hu : X.A.units + 65 < cLine) : CallR X (.builtin "max") (LCt X.K fa cMax) := fun pins s σ H vs us Q I rv ⟨a, ws, α, ds, k, e, hq, r, h, an⟩ => by
  subst e
  unfold cMax at h
  split at h
  · rename_i ns hn
    have := ints_v r hn
    subst this
    obtain ⟨its, ri, p, _⟩ := I.tuple hq
    rw [Vals.ref1 rv]
    cases ns with
    | nil => exact absurd h.1 (Nat.lt_irrefl 0)
    | cons n ns =>
      have hd := depth_ints (n :: ns)
      refine PySem.W.max_tuple_data (x := .int n) (xs := ns.map .int) (as := []) (I.ok.hd hc) (show s.heap.IsTuple a its.toArray from p) (by simpa using reads_of (h := s.heap) ri) (by simpa using alike_ints (n :: ns)) ?_ fun i v h' tk bs _ hr hk => ?_
      · have hd2 : PyData.depthAll (PyData.int n :: ns.map .int) ≤ 1 := by simpa using hd
        omega
      · rw [PySem.W.maxD_ints, maxL_fold] at hr
        cases hr
        exact ⟨.int _, H, I.kept hk, ⟨_, rfl⟩, an _ _ (.int _) h.2⟩
  · exact h.elim
theorem c_minT (hc : X.calm = true) (hu : X.A.units + 65 < cLine) : CallR X (.builtin "min") (LCt X.K fa cMin) := fun pins s σ H vs us Q I rv ⟨a, ws, α, ds, k, e, hq, r, h, an⟩ => by
  subst e
  unfold cMin at h
  split at h
  · rename_i ns hn
    have := ints_v r hn
    subst this
    obtain ⟨its, ri, p, _⟩ := I.tuple hq
    rw [Vals.ref1 rv]
    cases ns with
    | nil => exact absurd h.1 (Nat.lt_irrefl 0)
    | cons n ns =>
      have hd := depth_ints (n :: ns)
      refine PySem.W.min_tuple_data (x := .int n) (xs := ns.map .int) (as := []) (I.ok.hd hc) (show s.heap.IsTuple a its.toArray from p) (by simpa using reads_of (h := s.heap) ri) (by simpa using alike_ints (n :: ns)) ?_ fun i v h' tk bs _ hr hk => ?_
      · have hd2 : PyData.depthAll (PyData.int n :: ns.map .int) ≤ 1 := by simpa using hd
        omega
      · rw [PySem.W.minD_ints, minL_fold] at hr
        cases hr
        exact ⟨.int _, H, I.kept hk, ⟨_, rfl⟩, an _ _ (.int _) h.2⟩
  · exact h.elim
theorem c_sumT (hc : X.calm = true) : CallR X (.builtin "sum") (LCt X.K fa cSum) := fun pins s σ H vs us Q I rv ⟨a, ws, α, ds, k, e, hq, r, h, an⟩ => by
  subst e
  unfold cSum at h
  split at h
  · rename_i ns hn
    have := ints_v r hn
    subst this
    obtain ⟨its, ri, p, _⟩ := I.tuple hq
    rw [Vals.ref1 rv]
    obtain ⟨xs, ex⟩ := ri.ints.allInts.items
    have hs : numsOf (intItems xs).toList = ns := by rw [← ex]; exact ri.ints.numsOf
    rw [nums_intItems] at hs
    have p' : s.heap.IsTuple a (intItems xs) := by rw [← ex]; exact p
    refine PySem.W.ktm_sumG (I.ok.hd hc) p' fun h' tk t' hk => ⟨.int _, H, I.kept hk, ⟨_, rfl⟩, ?_⟩
    have e2 : PySem.preSum (numAt xs) xs.size = ns.sum := by rw [preSum_eq, List.take_of_length_le (by simp), hs]
    rw [e2]
    exact an _ _ (.int _) h
  · exact h.elim

/-! ### list.count of ints, list.index -/
def mCount : DM := fun d ds M P => match d, ds with
  | .ref n, [.int k] => (match M[n]? with
    | some (.lst xs) => (match intsOf xs with
      | some ns => P (.int (ns.count k : Nat)) M
      | none => False)
    | _ => False)
  | _, _ => False
theorem m_count : MtR X "list.count" (LM X.K fa mCount) := (show MtR X "list.count" (rCntI X.K) from mt_lcount).imp fun x xs H Q ⟨M, α, d, ds, P, sr, r, rs, h, an⟩ => by
  unfold mCount at h
  split at h
  · rcases rs with _ | ⟨ry, _ | _⟩
    cases ry
    split at h
    · rename_i zs hM
      split at h
      · rename_i ns hn
        cases r with
        | @ref n a ea =>
          obtain ⟨vs, hv, l, rz⟩ := cell_l sr ea hM
          have e := ints_v rz hn
          subst e
          exact ⟨a, ns, _, rfl, rfl, .inl (.inl hv), an.here sr (.int _) h⟩
      · exact h.elim
    · exact h.elim
  · exact h.elim
/-- the first place of y's like among data -/
def firstAt (y : PyData) : List PyData → Nat → Option Nat
  | [], _ => none
  | x :: xs, k => if PyData.eqv x y = true then some k else firstAt y xs (k + 1)
theorem firstAt_ok {y : PyData} : ∀ {xs : List PyData} {k j : Nat}, firstAt y xs k = some j → ∃ z i, j = k + i ∧ xs[i]? = some z ∧ PyData.eqv z y = true ∧ ∀ m z', m < i → xs[m]? = some z' → PyData.eqv z' y = false
  | [], _, _, h => by cases h
  | x :: xs, k, j, h => by
    unfold firstAt at h
    split at h
    · rename_i hx
      cases h
      exact ⟨x, 0, rfl, rfl, hx, fun m _ hm => by omega⟩
    · rename_i hx
      obtain ⟨z, i, e, h1, h2, h3⟩ := firstAt_ok h
      refine ⟨z, i + 1, by omega, by simpa using h1, h2, fun m z' hm hz => ?_⟩
      cases m with
      | zero =>
        have : x = z' := by simpa using hz
        subst this
        simpa using hx
      | succ m => exact h3 m z' (by omega) (by simpa using hz)
def mIndex : DM := fun d ds M P => match d, ds with
  | .ref n, [y] => (match M[n]?, pyM M y with
    | some (.lst xs), some p => (pures? xs = true ∧ SeqAt.shaped (.list (toPys xs)) = true ∧ SeqAt.shaped p = true) ∧ (match firstAt p (toPys xs) 0 with
      | some j => P (.int (j : Nat)) M
      | none => False)
    | _, _ => False)
  | _, _ => False
theorem m_index (hu : X.A.units + 65 < cLine) : MtR X "list.index" (LM X.K fa mIndex) := (show MtR X "list.index" (rIndexD X.K) from mt_indexD hu).imp fun x xs H Q ⟨M, α, d, ds, P, sr, r, rs, h, an⟩ => by
  unfold mIndex at h
  split at h
  · rcases rs with _ | ⟨ry, _ | _⟩
    split at h
    · rename_i zs p hM hp
      obtain ⟨⟨h1, h2, h3⟩, h⟩ := h
      split at h
      · rename_i j hj
        cases r with
        | @ref n a ea =>
          obtain ⟨vs, hv, l, rz⟩ := cell_l sr ea hM
          obtain ⟨z, i, e, g1, g2, g3⟩ := firstAt_ok hj
          rw [Nat.zero_add] at e
          subst e
          exact ⟨a, _, p, _, j, z, rfl, rfl, .lst (.inl (.inl hv)) (rz.dp h1), pyM_dp sr ry hp, h2, h3, g1, g2, g3, an.here sr (.int _) h⟩
      · exact h.elim
    · exact h.elim
  · exact h.elim
end
end DL
/-! The data layer: the compiler's steps, widened. -/
namespace DL
open PySem PySem.Spec PyProof.Rows L2
section
variable {G : Glb} (p : Comp G) (c : Cp)
/-- an expression that makes a range -/
def stepRg (e : Expr) : Option { t : DRg // ∀ X fa C, Hy G c X fa C → PRg X e (LRg X.K fa C t) } := match e with
  | .Call (.Name f pf) [a] [] pos => if hb : bi G c f "range" = true ∧ notStar a = true then (p.E c a).map fun ta => ⟨rg1 ta.1, fun X fa C h => by
        obtain ⟨e, k⟩ := bi_ok hb.1
        subst e
        exact r_1 (k h).1 (k h).2 (ta.2 X fa C h) (star_ok hb.2)⟩ else none
  | .Call (.Name f pf) [a, b] [] pos => if hb : bi G c f "range" = true ∧ notStar a = true ∧ notStar b = true then (match p.E c a, p.E c b with
      | some ta, some tb => some ⟨rg2 ta.1 tb.1, fun X fa C h => by
        obtain ⟨e, k⟩ := bi_ok hb.1
        subst e
        exact r_2 (k h).1 (k h).2 (ta.2 X fa C h) (tb.2 X fa C h) (star_ok hb.2.1) (star_ok hb.2.2) (stars_ok (by simp [hb.2.2]))⟩
      | _, _ => none) else none
  | _ => none
/-- f(a), the further forms -/
def stepF1 (f : Str) (pf : Pos) (a : Expr) (pos : Pos) : Option (CE G c (.Call (.Name f pf) [a] [] pos)) :=
  if hs : notStar a = true then
    if hb : bi G c f "list" = true then (stepRg p c a).map fun ta => ⟨eLstRg ta.1, fun X fa C h => by
        obtain ⟨e, k⟩ := bi_ok hb
        subst e
        exact d_lstRg h.calm (k h).1 (k h).2 (ta.2 X fa C h) (star_ok hs)⟩
    else if hb : bi G c f "tuple" = true then (stepRg p c a).map fun ta => ⟨eTupRg ta.1, fun X fa C h => by
        obtain ⟨e, k⟩ := bi_ok hb
        subst e
        exact d_tupRg h.calm (k h).1 (k h).2 (ta.2 X fa C h) (star_ok hs)⟩
    else if hb : bi G c f "sum" = true then (match p.L c a with
      | some _ => none
      | none => (p.A c [a]).map fun ta => ⟨eF (fC cSum true) ta.1, fun X fa C h => by
          obtain ⟨e, k⟩ := bi_ok hb
          subst e
          exact d_callB (fc_t (c_sum h.calm) (c_sumT h.calm)) (k h).1 (k h).2 (by decide +kernel) (ta.2 X fa C h) (by decide) (by decide) (star_ok hs) rfl⟩)
    else if hb : bi G c f "max" = true then (match p.L c a with
      | some _ => none
      | none => (p.A c [a]).map fun ta => ⟨eF (fC cMax true) ta.1, fun X fa C h => by
          obtain ⟨e, k⟩ := bi_ok hb
          subst e
          exact d_callB (fc_t (c_max h.calm) (c_maxT h.calm h.mo.hu)) (k h).1 (k h).2 (by decide +kernel) (ta.2 X fa C h) (by decide) (by decide) (star_ok hs) rfl⟩)
    else if hb : bi G c f "min" = true then (match p.L c a with
      | some _ => none
      | none => (p.A c [a]).map fun ta => ⟨eF (fC cMin true) ta.1, fun X fa C h => by
          obtain ⟨e, k⟩ := bi_ok hb
          subst e
          exact d_callB (fc_t (c_min h.calm) (c_minT h.calm h.mo.hu)) (k h).1 (k h).2 (by decide +kernel) (ta.2 X fa C h) (by decide) (by decide) (star_ok hs) rfl⟩)
    else none
  else none
/-- o.m(a), the further methods -/
def stepM1 (o : Expr) (m : Str) (apos : Pos) (a : Expr) (pos : Pos) : Option (CE G c (.Call (.Attribute o m apos) [a] [] pos)) :=
  if hb : notCall o = true ∧ (apos.endLine == pos.line) = true ∧ notStar a = true then
    match p.E c o, p.A c [a] with
    | some to, some ta => if hm : m = "count" then some ⟨eM "list" mCount to.1 ta.1, fun X fa C h => by
            subst hm
            exact d_meth PySem.F.plainAttrs_list PySem.F.slot_list_count PySem.F.type_list_count m_count (to.2 X fa C h) (ta.2 X fa C h) (base_ok hb.1) (few_ok (by simp [hb.2.2]) (by show 1 < 20; omega)) hb.2.1 (star_ok hb.2.2) rfl⟩
          else if hm : m = "index" then some ⟨eM "list" mIndex to.1 ta.1, fun X fa C h => by
            subst hm
            exact d_meth PySem.F.plainAttrs_list PySem.F.slot_list_index PySem.F.type_list_index (m_index h.mo.hu) (to.2 X fa C h) (ta.2 X fa C h) (base_ok hb.1) (few_ok (by simp [hb.2.2]) (by show 1 < 20; omega)) hb.2.1 (star_ok hb.2.2) rfl⟩
          else none
    | _, _ => none
  else none
def stepE2 (e : Expr) : Option (CE G c e) := match e with
  | .Call (.Name f pf) [a] [] pos => (match stepF1 p c f pf a pos with
    | some t => some t
    | none => stepE p c (.Call (.Name f pf) [a] [] pos))
  | .Call (.Attribute o m apos) [a] [] pos => (match stepM1 p c o m apos a pos with
    | some t => some t
    | none => stepE p c (.Call (.Attribute o m apos) [a] [] pos))
  | e => stepE p c e
def stepI2 (tg e : Expr) : Option (CI G c tg e) := match e with
  | .Call (.Name f pf) [a] [] pos => if hb : bi G c f "enumerate" = true ∧ notStar a = true then (p.E c a).map fun ta => ⟨iEnumD ta.1, fun X fa C h => by
        obtain ⟨e, k⟩ := bi_ok hb.1
        subst e
        exact i_enum (k h).1 (k h).2 (ta.2 X fa C h) (star_ok hb.2)⟩
      else stepI p c tg (.Call (.Name f pf) [a] [] pos)
  | .Call (.Name f pf) [a, b] [] pos => if hb : bi G c f "zip" = true ∧ notStar a = true ∧ notStar b = true then (match p.E c a, p.E c b with
      | some ta, some tb => some ⟨iZip ta.1 tb.1, fun X fa C h => by
        obtain ⟨e, k⟩ := bi_ok hb.1
        subst e
        exact i_zip (k h).1 (k h).2 (ta.2 X fa C h) (tb.2 X fa C h) (star_ok hb.2.1) (star_ok hb.2.2) (stars_ok (by simp [hb.2.2]))⟩
      | _, _ => none)
      else stepI p c tg (.Call (.Name f pf) [a, b] [] pos)
  | e => stepI p c tg e
end
end DL
/-! The data layer, the knot: the compiler's recursion, a whole program's meaning, the head. -/
namespace DL
open PySem PySem.Spec PyProof.Rows L2

def comp (G : Glb) : Nat → Comp G
  | 0 => ⟨fun _ _ => none, fun _ _ => none, fun _ _ _ => none, fun _ _ _ => none, fun _ _ => none, fun _ _ => none, fun _ _ _ => none, fun _ _ => none, fun _ _ => none, fun _ _ => none, fun _ _ => none, fun _ _ => none⟩
  | n + 1 => ⟨stepE2 (comp G n), stepT (comp G n), stepW (comp G n), stepV (comp G n), stepA (comp G n), stepL (comp G n), stepI2 (comp G n), stepO (comp G n), stepG (comp G n), stepGs (comp G n), stepS (comp G n), stepSs (comp G n)⟩

structure Fn where
  np : Nat
  nl : Nat
  code : DS
/-- what the i-th def means, calls going at most n deep -/
def sem (T : List Fn) : Nat → Nat → DSp
  | 0, _ => fun _ _ _ _ => False
  | n + 1, i => fun ex ds M P => match T[i]? with
    | some f => ds.length = f.np ∧ f.code ⟨sem T n, fun _ => ex⟩ ⟨fun _ M' => P .non M', P, fun _ _ => False, fun _ _ => False⟩ (ds.map some ++ List.replicate (f.nl - ds.length) none) M
    | none => False
/-- one def: its names, its text -/
structure Df where
  x : Str
  ps : List Str
  N : List Str
  params : Arguments
  body : List Stmt
  scope : Scope
def cOf (d : Df) : Cp := ⟨d.N, d.scope, fun _ => true⟩
theorem code_ok {G : Glb} {d : Df} {t : DS} {n : Nat} (h : ((comp G n).Ss (cOf d) d.body).map (fun z => z.1) = some t) (X : Cx) (fa : Org) (C : Ctx) (hy : HyS G (cOf d) X fa C) : PSs X d.body (LS X.K fa C t) := by
  obtain ⟨z, _, e⟩ := Option.map_eq_some_iff.mp h
  subst e
  exact z.2 X fa C hy
/-- the i-th def of the text and its meaning -/
structure DfOk (G : Glb) (d : Df) (f : Fn) : Prop where
  np : f.np = d.ps.length
  nl : f.nl = d.N.length
  sc : FnScope d.N d.ps d.scope
  code : ∀ (X : Cx) (fa : Org) (C : Ctx), HyS G (cOf d) X fa C → PSs X d.body (LS X.K fa C f.code)
  bind : ∀ (kV doc pm : Value) (an : Option Addr) (cdv ct : Value) (us : List Value), us.length = d.ps.length → bindArgs (PySem.W.fnOf d.x d.x d.params d.body d.scope .none kV doc pm an cdv ct) ⟨us, []⟩ = pure (d.ps.zip us)
section
variable {P : Program} {w : World} {K : PySem.W.Frag} {mg : Str → Option Value} {base : Heap} {fa : Org} {G : Glb} {T : List Fn}
theorem env_start {α : List Addr} {H : Hp} {N : List Str} {vs : List V} {ds : List D} (r : Rps K fa α H vs ds) : EnvR K fa α H (L2.start N vs) (ds.map some ++ List.replicate (N.length - ds.length) none) := by
  have hl := r.length
  refine ⟨by simp [L2.start, hl], fun i d q => ?_⟩
  by_cases hi : i < ds.length
  · rw [List.getElem?_append_left (by simpa using hi), List.getElem?_map] at q
    obtain ⟨d', e1, e2⟩ := Option.map_eq_some_iff.mp q
    cases e2
    obtain ⟨v, e, r1⟩ := r.get e1
    refine ⟨v, ?_, r1⟩
    show (vs.map some ++ _)[i]? = _
    rw [List.getElem?_append_left (by simpa [hl] using hi), List.getElem?_map, e]
    rfl
  · rw [List.getElem?_append_right (by simpa using hi)] at q
    have := List.mem_of_getElem? q
    have := List.eq_of_mem_replicate this
    cases this
theorem fn_at {x qual : Str} {params : Arguments} {body : List Stmt} {scope : Scope} {f : Addr} {fd : FuncData} (F : FunD K x qual params body scope [] [] f fd) : ∃ oc od osl, K.lookup f = some ⟨oc, od, .func fd, osl⟩ := by
  obtain ⟨oc, od, dV, kV, doc, pm, an, cdv, ct, osl, _, lk, _⟩ := F.ex
  exact ⟨oc, od, osl, lk⟩
/-- the module's other facts -/
structure Mg (G : Glb) (K : PySem.W.Frag) (mg : Str → Option Value) (fa : Org) : Prop where
  free : ∀ x ∈ G.free, mg x = none
  bfn : ∀ p ∈ G.bfn, mg p.1 = some (.builtin p.2)
  nums : ∀ p ∈ G.nums, ∃ t, mg p.1 = some (.int p.2 t)
  tups : ∀ p ∈ G.tups, ∃ a, mg p.1 = some (.ref a) ∧ ∀ (fb : Org) α H, Rp K fb α H (.ref a) (.kup p.2)
theorem sem_ok (hm : Mg G K mg fa) (hd : ∀ (i : Nat) (x : Str) (ps : List Str), G.fns[i]? = some (x, ps) → mg x = some (.ref (fa.fn i)) ∧ ∃ (d : Df) (f : Fn) (fd : FuncData), d.ps = ps ∧ T[i]? = some f ∧ DfOk G d f ∧ FunD K d.x d.x d.params d.body d.scope [] [] (fa.fn i) fd) :
    ∀ (n i : Nat) (x : Str) (ps : List Str), G.fns[i]? = some (x, ps) → ∃ fd, (∃ oc od osl, K.lookup (fa.fn i) = some ⟨oc, od, .func fd, osl⟩) ∧ FnOk P w K mg base (L2.CX P w) n (fa.fn i) fd ps (LSp K fa (sem T n i)) ∧ Binds K fd ps []
  | 0, i, x, ps, hi => by
    obtain ⟨_, d, f, fd, e, hT, ok, F⟩ := hd i x ps hi
    subst e
    exact ⟨fd, fn_at F, ⟨fun vs H Q E ⟨_, _, _, _, _, _, _, h, _⟩ => h.elim, fun A outer s H args us vs Q E _ _ _ _ ⟨_, _, _, _, _, _, _, h, _⟩ => h.elim⟩, F.bindsN ok.bind⟩
  | n + 1, i, x, ps, hi => by
    obtain ⟨_, d, f, fd, e, hT, ok, F⟩ := hd i x ps hi
    subst e
    have go : ∀ (ex : XP) (ds : List D) (M : Mem) (P : Po), sem T (n + 1) i ex ds M P → ds.length = f.np ∧ f.code ⟨sem T n, fun _ => ex⟩ ⟨fun _ M' => P .non M', P, fun _ _ => False, fun _ _ => False⟩ (ds.map some ++ List.replicate (f.nl - ds.length) none) M := fun ex ds M P h => by
      unfold sem at h
      rw [hT] at h
      exact h
    refine ⟨fd, fn_at F, F.ok ok.sc (fun vs H Q E ⟨ds, M, α, P, ex, r, s, h, _⟩ => ?_) (fun cdv A outer s H vs Q E hr ⟨ds, M, α, Pd, ex, r, st, h, an, xa⟩ => ?_), F.bindsN ok.bind⟩
    · rw [r.length, (go _ _ _ _ h).1, ok.np]
    · obtain ⟨_, h⟩ := go _ _ _ _ h
      have mo : Mo G (cxOf (L2.CX P w) P w K mg base d.N d.x d.scope (fa.fn i) cdv A outer s H E) { fa with H0 := H, α0 := α } (sem T n) := by
        refine ⟨?_, hm.free, hm.bfn, hm.nums, fun p hp => ?_, fun j y qs hj => ?_⟩
        · have := hr.un
          show (A.deeper (envOfC d.x d.scope s.heap.objs.size (fa.fn i) cdv)).units + 65 < cLine
          omega
        · obtain ⟨a, e, q⟩ := hm.tups p hp
          exact ⟨a, e, fun α' H' => q _ α' H'⟩
        · obtain ⟨e, d2, f2, fd2, _, _, _, F2⟩ := hd j y qs hj
          obtain ⟨fd', _, F', B'⟩ := sem_ok hm hd n j y qs hj
          exact ⟨e, F2.kp, n, fd', F'.imp fun vs H1 Q E ⟨ds, M, β, P, ex, r, z⟩ => ⟨ds, M, β, P, ex, Rps.org (fa := { fa with H0 := H, α0 := α }) (fb := fa) rfl r, z⟩, hr, B'⟩
      refine ⟨LS K { fa with H0 := H, α0 := α } ⟨sem T n, fun _ => ex⟩ f.code, ok.code _ { fa with H0 := H, α0 := α } ⟨sem T n, fun _ => ex⟩ ?_, ?_⟩
      · refine ⟨⟨rfl, ok.sc.nd, rfl, rfl, rfl, mo, ⟨⟨_, takes_of rfl rfl rfl rfl, fun σ ρ β H' M' c fs us dx er sr rs hx nd hex => ?_⟩⟩⟩, passes_of rfl⟩
        exact xa c fs us dx H' β M' sr.org sr rs hx nd hex
      · refine ⟨_, M, α, _, env_start (N := d.N) (Rps.org (fa := fa) (fb := { fa with H0 := H, α0 := α }) rfl r), st, by rw [ok.nl] at h; exact h, ?_⟩
        exact ⟨fun σ' ρ' H' α' M' e er sr p => an .non .non H' α' M' e sr .non p, an, fun _ _ _ _ _ _ _ _ z => z.elim, fun _ _ _ _ _ _ _ _ z => z.elim⟩
end
end DL
/-! The data layer, the head: what the run of the top leaves, read off a fragment. -/
namespace DL
open PySem PySem.Spec PyProof.Rows L2

/-! ### a value as data -/
mutual
def repB (K : PySem.W.Frag) : Value → D → Bool
  | .none, .non => true
  | .bool b, .bl c => b == c
  | .int i _, .int j => decide (i = j)
  | .str s _, .str z => decide (s = z)
  | .ref a, .kup ds => (match K.lookup a with
    | some o => (match o.data with
      | .seq its _ => decide (o.cls = .type "tuple") && (decide (its.size ≤ sizeLine) && repsB K its.toList ds)
      | _ => false)
    | none => false)
  | _, _ => false
def repsB (K : PySem.W.Frag) : List Value → List D → Bool
  | [], [] => true
  | u :: us, d :: ds => repB K u d && repsB K us ds
  | _, _ => false
end
theorem both {a b : Bool} (h : (a && b) = true) : a = true ∧ b = true := by
  cases a <;> cases b <;> first | exact ⟨rfl, rfl⟩ | cases h
mutual
theorem repB_ok {K : PySem.W.Frag} : ∀ {u : Value} {d : D}, repB K u d = true → ∃ v, RelV v u ∧ ∀ fb α H, Rp K fb α H v d
  | u, .non, h => by
    cases u <;> first | exact ⟨.non, rfl, fun _ _ _ => .non⟩ | (simp [repB] at h)
  | u, .bl c, h => by
    cases u <;> first | (simp [repB] at h; done) | skip
    rename_i b
    exact ⟨.bl c, by rw [beq_iff_eq.mp (show (b == c) = true by simpa [repB] using h)]; rfl, fun _ _ _ => .bl c⟩
  | u, .int j, h => by
    cases u <;> first | (simp [repB] at h; done) | skip
    rename_i i t
    exact ⟨.int j, ⟨t, by rw [show i = j by simpa [repB] using h]⟩, fun _ _ _ => .int j⟩
  | u, .str z, h => by
    cases u <;> first | (simp [repB] at h; done) | skip
    rename_i s t
    exact ⟨.str z, ⟨t, by rw [show s = z by simpa [repB] using h]⟩, fun _ _ _ => .str z⟩
  | u, .tup ds, h => by cases u <;> simp [repB] at h
  | u, .rol ds, h => by cases u <;> simp [repB] at h
  | u, .ref n, h => by cases u <;> simp [repB] at h
  | u, .fn n, h => by cases u <;> simp [repB] at h
  | u, .kup ds, h => by
    cases u <;> first | (simp [repB] at h; done) | skip
    rename_i a
    unfold repB at h
    split at h
    · rename_i o ho
      split at h
      · rename_i its n hd
        obtain ⟨h1, h2⟩ := both h
        obtain ⟨h3, h4⟩ := both h2
        obtain ⟨vs, r, q⟩ := repsB_ok h4
        have hl : vs.length ≤ sizeLine := by
          have := r.length
          rw [this]
          simpa using of_decide_eq_true h3
        exact ⟨.ref a, rfl, fun fb α H => .kup (fun _ => .inr ⟨o, its, n, ho, of_decide_eq_true h1, hd, of_decide_eq_true h3, r⟩) hl (q fb α H)⟩
      · cases h
    · cases h
theorem repsB_ok {K : PySem.W.Frag} : ∀ {us : List Value} {ds : List D}, repsB K us ds = true → ∃ vs, Vals vs us ∧ ∀ fb α H, Rps K fb α H vs ds
  | [], [], _ => ⟨[], .nil, fun _ _ _ => .nil⟩
  | [], _ :: _, h => by simp [repsB] at h
  | _ :: _, [], h => by simp [repsB] at h
  | u :: us, d :: ds, h => by
    unfold repsB at h
    obtain ⟨h1, h2⟩ := both h
    obtain ⟨v, r, q⟩ := repB_ok h1
    obtain ⟨vs, rs, qs⟩ := repsB_ok h2
    exact ⟨v :: vs, .cons r rs, fun fb α H => .cons (q fb α H) (qs fb α H)⟩
end

/-! ### what the fragment must show -/
def ckM (G : Glb) (K : PySem.W.Frag) : Bool :=
  (G.fns.all fun p => decide (PySem.W.nsIn K mainGlobals p.1 = some (some (.ref (He.ga K p.1))))) && ((G.free.all fun x => decide (PySem.W.nsIn K mainGlobals x = some none)) && ((G.bfn.all fun p => decide (PySem.W.nsIn K mainGlobals p.1 = some (some (.builtin p.2)))) &&
  ((G.nums.all fun p => match PySem.W.nsIn K mainGlobals p.1 with
    | some (some (.int j _)) => decide (j = p.2)
    | _ => false) && (G.tups.all fun p => match PySem.W.nsIn K mainGlobals p.1 with
    | some (some (.ref a)) => repB K (.ref a) (.kup p.2)
    | _ => false))))
def orgM (G : Glb) (K : PySem.W.Frag) : Org where
  fn := fun i => match G.fns[i]? with
    | some p => He.ga K p.1
    | none => 0
  cls := fun _ => 0
  flds := fun _ => []
  H0 := fun _ => none
  α0 := []
theorem ckM_ok {G : Glb} {K : PySem.W.Frag} {h : Heap} {mg : Str → Option Value} (X : K.In h) (N : h.Ns mainGlobals mg) (c : ckM G K = true) :
    (∀ p ∈ G.fns, mg p.1 = some (.ref (He.ga K p.1))) ∧ Mg G K mg (orgM G K) := by
  obtain ⟨c1, c⟩ := both c
  obtain ⟨c2, c⟩ := both c
  obtain ⟨c3, c⟩ := both c
  obtain ⟨c4, c5⟩ := both c
  refine ⟨fun p hp => PySem.W.mg_of X N (of_decide_eq_true (List.all_eq_true.mp c1 p hp)), fun x hx => PySem.W.mg_none_of X N (of_decide_eq_true (List.all_eq_true.mp c2 x hx)), fun p hp => PySem.W.mg_of X N (of_decide_eq_true (List.all_eq_true.mp c3 p hp)), fun p hp => ?_, fun p hp => ?_⟩
  · have z := List.all_eq_true.mp c4 p hp
    split at z
    · rename_i j t e
      rw [of_decide_eq_true z] at e
      exact ⟨t, PySem.W.mg_of X N e⟩
    · cases z
  · have z := List.all_eq_true.mp c5 p hp
    split at z
    · rename_i a e
      obtain ⟨v, r, q⟩ := repB_ok z
      refine ⟨a, PySem.W.mg_of X N e, fun fb α H => ?_⟩
      have r' := q fb α H
      have r2 : Rp K fb α H v (.kup p.2) := r'
      cases r2 with
      | @kup b vs _ s l rs =>
        have e2 : Value.ref a = Value.ref b := r
        cases e2
        exact r'
    · cases z

/-! ### the hook -/
abbrev AlM : Type := Bool × List He.FnW
def defM (d : Df) : He.DefD := ⟨(d.x, none), d.x, d.x, d.params, d.body, d.scope, [], []⟩
def obsM (G : Glb) (ds : List Df) (K : PySem.W.Frag) : AlM := (ckM G K && (ds.all fun d => (defM d).ok K), ds.map fun d => He.fnW K (d.x, none))
def valM (ds : List Df) : AlM := (true, ds.map fun d => (defM d).val)
def obsG (n : Nat) (G : Glb) (ds : List Df) (g : Addr → Option Obj) : AlM := obsM G ds (He.frG g (He.asD g n))
def hookM (n : Nat) (G : Glb) (ds : List Df) : PySem.W.Hook where
  α := AlM
  obs := fun s => obsG n G ds s.heap.get?
  val := fun _ => valM ds
  says := fun _ h => ∃ K : PySem.W.Frag, K.In h ∧ obsM G ds K = valM ds
  of := fun _ s e => ⟨He.frG s.heap.get? (He.asD s.heap.get? n), He.frG_in, e⟩
  keeps := fun _ _ _ ⟨K, hK, c⟩ k => ⟨K, hK.keeps k, c⟩
def obM (n : Nat) (G : Glb) (ds : List Df) (s : PySem.W.SharedT) : AlM := obsG n G ds (HandSHeadRun.getT s)
theorem obM_eq {n : Nat} {G : Glb} {ds : List Df} (s : PySem.W.SharedT) : obM n G ds s = (hookM n G ds).obs s.abs := by
  have e : HandSHeadRun.getT s = s.abs.heap.get? := funext fun a => HandSHeadRun.getT_eq s a
  show obsG n G ds (HandSHeadRun.getT s) = obsG n G ds s.abs.heap.get?
  rw [e]

/-! ### the law -/
/-- all defs of the table are in order -/
def TabOk (G : Glb) (ds : List Df) (T : List Fn) : Prop := G.fns = ds.map (fun d => (d.x, d.ps)) ∧ ∀ (i : Nat) (d : Df), ds[i]? = some d → ∃ f, T[i]? = some f ∧ DfOk G d f
def Small (ns : List Int) : Prop := ns.length ≤ 63 ∧ ∀ z ∈ ns, Builtin.Int.intBits z ≤ 1048576
theorem law_M {P : Program} {w : World} {G : Glb} {ds : List Df} {T : List Fn} {K : PySem.W.Frag} {h : Heap} {mg : Str → Option Value} {k i : Nat} {x : Str} {f : Addr} {d : Df} (tab : TabOk G ds T) (X : K.In h) (N : h.Ns mainGlobals mg) (c : obsM G ds K = valM ds)
    (hd : ds[i]? = some d) (hf : mg d.x = some (.ref f)) (hps : d.ps = [x])
    (law : ∀ ns : List Int, Small ns → sem T k i (fun _ _ _ => False) [.rol (ns.map D.int)] [] fun r _ => r = .bl true) :
    ∃ (fd : FuncData) (sp : Sp), (∀ (s : Shared) (u : Value), BindsTo s fd ⟨[u], []⟩ [(x, u)]) ∧
      (∀ (H : Hp) (a : Addr) (ns : List Int), Small ns → Only H → SqL K H a (ns.map V.int) → sp [.ref a] H (fun v _ => v = .bl true) fun _ _ _ => False) ∧
      ∀ base : Heap, K.In base → base.Ns mainGlobals mg → FnOk P w K mg base (L2.CX P w) k f fd [x] sp := by
  obtain ⟨c1, c2⟩ := Prod.mk.inj (show (ckM G K && (ds.all fun d => (defM d).ok K), ds.map fun d => He.fnW K (d.x, none)) = (true, ds.map fun d => (defM d).val) from c)
  obtain ⟨c1, c3⟩ := both c1
  obtain ⟨m1, m2⟩ := ckM_ok X N c1
  have fnd : ∀ (j : Nat) (e : Df), ds[j]? = some e → (orgM G K).fn j = He.ga K e.x ∧ ∃ fd, FunD K e.x e.x e.params e.body e.scope [] [] (He.ga K e.x) fd := fun j e he => by
    have q : (ds.map fun d => He.fnW K (d.x, none))[j]? = (ds.map fun d => (defM d).val)[j]? := by rw [c2]
    rw [List.getElem?_map, List.getElem?_map, he] at q
    refine ⟨?_, He.DefD.funD (d := defM e) (Option.some.inj q) (List.all_eq_true.mp c3 e (List.mem_of_getElem? he))⟩
    show (match G.fns[j]? with
      | some p => He.ga K p.1
      | none => 0) = _
    rw [tab.1, List.getElem?_map, he]
    rfl
  have all : ∀ (j : Nat) (y : Str) (ps : List Str), G.fns[j]? = some (y, ps) → mg y = some (.ref ((orgM G K).fn j)) ∧ ∃ (e : Df) (g : Fn) (fd : FuncData), e.ps = ps ∧ T[j]? = some g ∧ DfOk G e g ∧ FunD K e.x e.x e.params e.body e.scope [] [] ((orgM G K).fn j) fd := fun j y ps hj => by
    have hm := m1 _ (List.mem_of_getElem? hj)
    rw [tab.1, List.getElem?_map] at hj
    obtain ⟨e, he, e2⟩ := Option.map_eq_some_iff.mp hj
    cases e2
    obtain ⟨g, hg, ok⟩ := tab.2 j e he
    obtain ⟨q1, fd, q2⟩ := fnd j e he
    rw [q1]
    exact ⟨hm, e, g, fd, rfl, hg, ok, q2⟩
  have hi : G.fns[i]? = some (d.x, d.ps) := by rw [tab.1, List.getElem?_map, hd]; rfl
  obtain ⟨g, hg, ok⟩ := tab.2 i d hd
  obtain ⟨q1, fd, q2⟩ := fnd i d hd
  have ef : f = He.ga K d.x := by
    have z := (m1 _ (List.mem_of_getElem? hi)).symm.trans hf
    cases z
    rfl
  subst ef
  have bd := fun s us hl => FunD.bindsA (ps := d.ps) q2 ok.bind s us hl
  refine ⟨fd, LSp K (orgM G K) (sem T k i), fun s u => ?_, fun H a ns sm on sq => ?_, fun base KB NB => ?_⟩
  · have z := bd s [u] (by rw [hps]; rfl)
    rw [hps] at z
    exact z
  · have hl : (ns.map V.int).length ≤ sizeLine := by
      have e : sizeLine = 16777216 := by decide
      rw [List.length_map, e]
      have := sm.1
      omega
    have rr : Rp K (orgM G K) [] H (.ref a) (.rol (ns.map D.int)) := by
      refine .rol ?_ hl (Rps.ints ns)
      rcases sq with (q | q) | q
      · rcases on a with z | ⟨o, us, z⟩
        · rw [z] at q; cases q
        · rw [z] at q; cases q
      · exact .inl q
      · exact .inr fun _ => .inr q
    refine ⟨[.rol (ns.map D.int)], [], [], _, _, .cons rr .nil, ⟨rfl, List.nodup_nil, fun n c a e _ => by simp at e, Ext.refl⟩, law ns sm, fun v e H' α' M' _ _ r p => ?_, fun _ _ _ _ _ _ _ _ _ _ _ _ z => z.elim⟩
    subst p
    cases r
    rfl
  · obtain ⟨fd', at', F, _⟩ := sem_ok (P := P) (w := w) (base := base) m2 all k i d.x d.ps hi
    rw [hps, q1] at F
    obtain ⟨oc, od, osl, lk⟩ := fn_at q2
    obtain ⟨oc', od', osl', lk'⟩ := at'
    rw [q1, lk] at lk'
    cases lk'
    exact F

theorem walk_M {l : PySem.W.OpenLaw} {q : Program} {loose : List Str} {XP : (Str → Option Value) → Heap → Prop} {d : DefRec} {G : Glb} {ds : List Df} {T : List Fn} {m k i : Nat} {x : Str} {e : Df}
    (hn : l.most = some 63) (hdf : d.params.defaults = []) (hr : Room k callerA) (tab : TabOk G ds T) (he : ds[i]? = some e) (hx : e.x = d.name) (hps : e.ps = [x])
    (law : ∀ ns : List Int, Small ns → sem T k i (fun _ _ _ => False) [.rol (ns.map D.int)] [] fun r _ => r = .bl true) :
    PySem.W.WalkO q loose XP (hookM m G ds).says l.row.toRowW d [] fun f vs => PySem.call f vs := by
  refine Att.attach_callB hn hdf fun w s₀ s₁ mg mb fa o pm cd doc a vs ns Gr Y ho hd hcd hmg hobj hints hlen hbits hg => ?_
  obtain ⟨K, KX, c⟩ := Y
  obtain ⟨fd, sp, hb, hsp, hF⟩ := law_M (P := l.prog) (w := w) tab KX Gr.T.g c he (by rw [hx]; exact hmg) hps law
  have h63 : ns.length ≤ sizeLine := Nat.le_trans hlen (by decide)
  refine law_call (mb := mb) KX Gr.T.g Gr.T.b Gr.T.builtins Gr.T.nolimit hg hobj hints h63 hr hF hb (fun H on sq => hsp H a ns ⟨hlen, hbits⟩ on sq) fun H e s' z => ?_
  obtain ⟨_, _, _, _, _, _, _, _, _, _, _, _, z⟩ := z
  exact z
end DL
/-! The data layer: rules for proofs over data. -/
namespace DL
open PySem PySem.Spec PyProof.Rows L2

/-! ### loops by invariants; the continuation is any that the invariant gives -/
theorem floop_inv {g : D → Env → Mem → (Env → Mem → Prop) → Prop} {b : DEnds → Env → Mem → Prop} {E : DEnds} {grd : Mem → Prop} (I : List D → Env → Mem → Prop)
    (step : ∀ x xs ρ M, I (x :: xs) ρ M → grd M ∧ ∀ K : Env → Mem → Prop, (∀ ρ' M', I xs ρ' M' → K ρ' M') → g x ρ M fun ρ' M' => b { E with nx := K, ct := K, bk := E.nx } ρ' M')
    (fin : ∀ ρ M, I [] ρ M → grd M ∧ E.nx ρ M) : ∀ (xs : List D) (ρ : Env) (M : Mem), I xs ρ M → floop g b E grd xs ρ M
  | [], ρ, M, h => fin ρ M h
  | x :: xs, ρ, M, h => by
    obtain ⟨h1, h2⟩ := step x xs ρ M h
    exact ⟨h1, h2 _ fun ρ' M' h' => floop_inv I step fin xs ρ' M' h'⟩
theorem cloop_inv {g : D → Env → Mem → (Env → Mem → Prop) → Prop} {tt : Env → Mem → (Bool → Mem → Prop) → Prop} {e : Env → Mem → (D → Mem → Prop) → Prop} {grd : Mem → Prop} {ρ : Env} {P : List D → Mem → Prop} (I : List D → List D → Mem → Prop)
    (step : ∀ x xs acc M, I (x :: xs) acc M → grd M ∧ ∀ K : List D → Mem → Prop, (∀ acc' M', I xs acc' M' → K acc' M') → g x ρ M fun ρ2 M2 => tt ρ2 M2 fun b M3 => if b = true then e ρ2 M3 fun d M4 => K (acc ++ [d]) M4 else K acc M3)
    (fin : ∀ acc M, I [] acc M → grd M ∧ P acc M) : ∀ (xs acc : List D) (M : Mem), I xs acc M → cloop g tt e grd ρ P xs acc M
  | [], acc, M, h => fin acc M h
  | x :: xs, acc, M, h => by
    obtain ⟨h1, h2⟩ := step x xs acc M h
    exact ⟨h1, h2 (cloop g tt e grd ρ P xs) fun acc' M' h' => cloop_inv I step fin xs acc' M' h'⟩
/-- a comprehension that touches nothing: f the test, h the item -/
theorem cloop_pure {g : D → Env → Mem → (Env → Mem → Prop) → Prop} {tt : Env → Mem → (Bool → Mem → Prop) → Prop} {e : Env → Mem → (D → Mem → Prop) → Prop} {grd : Mem → Prop} {ρ : Env} {P : List D → Mem → Prop} {M : Mem} (f : D → Bool) (h : D → D) (hg : grd M) :
    ∀ (xs acc : List D), (∀ x ∈ xs, ∀ (acc : List D) (K : List D → Mem → Prop), K (if f x = true then acc ++ [h x] else acc) M → g x ρ M fun ρ2 M2 => tt ρ2 M2 fun b M3 => if b = true then e ρ2 M3 fun d M4 => K (acc ++ [d]) M4 else K acc M3) →
      P (acc ++ (xs.filter f).map h) M → cloop g tt e grd ρ P xs acc M
  | [], acc, _, p => ⟨hg, by simpa using p⟩
  | x :: xs, acc, st, p => by
    refine ⟨hg, st x List.mem_cons_self acc (cloop g tt e grd ρ P xs) (cloop_pure f h hg xs _ (fun y hy => st y (List.mem_cons_of_mem _ hy)) ?_)⟩
    by_cases hf : f x = true
    · rw [if_pos hf]
      rw [List.filter_cons_of_pos hf, List.map_cons] at p
      simpa using p
    · rw [if_neg hf]
      rw [List.filter_cons_of_neg hf] at p
      exact p
theorem wloop_inv {c : Env → Mem → (Bool → Mem → Prop) → Prop} {b : DEnds → Env → Mem → Prop} {E : DEnds} (I : Nat → Env → Mem → Prop)
    (step : ∀ n ρ M, I n ρ M → ∀ K : Env → Mem → Prop, (∀ m ρ' M', m < n → I m ρ' M' → K ρ' M') → c ρ M fun k M1 => if k = true then b { E with nx := K, ct := K, bk := E.nx } ρ M1 else E.nx ρ M1) :
    ∀ (N n : Nat) (ρ : Env) (M : Mem), n < N → I n ρ M → wloop c b E N ρ M
  | 0, _, _, _, h, _ => absurd h (Nat.not_lt_zero _)
  | N + 1, n, ρ, M, h, i => step n ρ M i (wloop c b E N) fun m ρ' M' hm i' => wloop_inv I step N m ρ' M' (by omega) i'
theorem while_inv {c : DT} {b : DS} {C : Ctx} {E : DEnds} {ρ : Env} {M : Mem} (I : Nat → Env → Mem → Prop) (n : Nat) (h : I n ρ M)
    (step : ∀ n ρ M, I n ρ M → ∀ K : Env → Mem → Prop, (∀ m ρ' M', m < n → I m ρ' M' → K ρ' M') → c C ρ M fun k M1 => if k = true then b C { E with nx := K, ct := K, bk := E.nx } ρ M1 else E.nx ρ M1) : sWhile c b C E ρ M :=
  ⟨n + 1, wloop_inv I step (n + 1) n ρ M (Nat.lt_succ_self n) h⟩

/-! ### the store -/
theorem get_set_self {M : Mem} {n : Nat} {c c' : Cell} (h : M[n]? = some c) : (M.set n c')[n]? = some c' := List.getElem?_set_self (List.getElem?_eq_some_iff.mp h).1
theorem get_set_ne {M : Mem} {n m : Nat} {c' : Cell} (h : n ≠ m) : (M.set n c')[m]? = M[m]? := List.getElem?_set_ne h
theorem get_app {M : Mem} {n : Nat} {c : Cell} {N : Mem} (h : M[n]? = some c) : (M ++ N)[n]? = some c := by
  rw [List.getElem?_append_left (List.getElem?_eq_some_iff.mp h).1]
  exact h
theorem get_new {M : Mem} {c : Cell} : (M ++ [c])[M.length]? = some c := by simp
theorem lt_of_get {M : Mem} {n : Nat} {c : Cell} (h : M[n]? = some c) : n < M.length := (List.getElem?_eq_some_iff.mp h).1
/-- all that was there stays, but the cell n -/
structure Kp (n : Nat) (M M' : Mem) : Prop where
  len : M.length ≤ M'.length
  same : ∀ m, m < M.length → m ≠ n → M'[m]? = M[m]?
theorem Kp.refl {n : Nat} {M : Mem} : Kp n M M := ⟨Nat.le_refl _, fun _ _ _ => rfl⟩
theorem Kp.trans {n : Nat} {M M' M'' : Mem} (a : Kp n M M') (b : Kp n M' M'') : Kp n M M'' := ⟨Nat.le_trans a.len b.len, fun m h1 h2 => (b.same m (Nat.lt_of_lt_of_le h1 a.len) h2).trans (a.same m h1 h2)⟩
theorem Kp.set {n : Nat} {M : Mem} {c : Cell} : Kp n M (M.set n c) := ⟨by simp, fun m _ h => List.getElem?_set_ne (Ne.symm h)⟩
theorem Kp.app {n : Nat} {M N : Mem} : Kp n M (M ++ N) := ⟨by simp, fun m h _ => by rw [List.getElem?_append_left h]⟩
theorem Kp.get {n m : Nat} {M M' : Mem} {c : Cell} (k : Kp n M M') (h : M[m]? = some c) (hn : m ≠ n) : M'[m]? = some c := (k.same m (lt_of_get h) hn).trans h
/-- a cell that is new to M is written -/
theorem Kp.wr {n m : Nat} {M M' : Mem} {c : Cell} (k : Kp n M M') (h : M.length ≤ m) : Kp n M (M'.set m c) := ⟨by simpa using k.len, fun j h1 h2 => by rw [List.getElem?_set_ne (by omega)]; exact k.same j h1 h2⟩
end DL
/-! The data layer: one rule for each step of a meaning, for proofs that go step by step. -/
namespace DL
open PySem PySem.Spec PyProof.Rows L2
namespace W
/-! what a value is taken for -/
def tobl (d : D) (k : Bool → Prop) : Prop := match d with
  | .bl b => k b
  | _ => False
def toin (d : D) (k : Int → Prop) : Prop := match d with
  | .int i => k i
  | _ => False
def topr (ds : List D) (k : D → D → Prop) : Prop := match ds with
  | [x, y] => k x y
  | _ => False
def tosq (M : Mem) (d : D) (k : List D → Prop) : Prop := match seqOf M d with
  | some xs => k xs
  | none => False
def toty (M : Mem) (T : String) (d : D) (k : Bool → Prop) : Prop := match tyOf M d with
  | some t => (match kitB t T with
    | some b => k b
    | none => False)
  | none => False
section
variable {C : Ctx} {E : DEnds} {ρ : Env} {M : Mem} {P : Po} {k : Bool → Mem → Prop} {t u : DS} {a b c e : DE} {x y : DT} {g : DG} {ga : DGs} {r : DA} {op op' : DOp} {o o' : DO}
theorem next (h : E.nx ρ M) : sNext C E ρ M := h
theorem seq (h : t C { E with nx := fun ρ' M' => u C E ρ' M' } ρ M) : sSeq t u C E ρ M := h
theorem brk (h : E.bk ρ M) : sBreak C E ρ M := h
theorem cont (h : E.ct ρ M) : sCont C E ρ M := h
theorem drop (h : e C ρ M fun _ M1 => E.nx ρ M1) : sDrop e C E ρ M := h
theorem ret (h : e C ρ M E.rt) : sRet e C E ρ M := h
theorem retN (h : E.rt .non M) : sRetN C E ρ M := h
theorem sif (h : x C ρ M fun b M1 => if b = true then t C E ρ M1 else u C E ρ M1) : sIf x t u C E ρ M := h
theorem asg (h : e C ρ M fun d M1 => g C d ρ M1 E.nx) : sAsg e g C E ρ M := h
theorem aug {i : Nat} {d : D} (q : ρ[i]? = some (some d)) (h : e C ρ M fun y M1 => op d y M1 fun z M2 => E.nx (ρ.set i (some z)) M2) : sAug i e op C E ρ M := by
  show got ρ[i]? _
  rw [q]
  exact h
theorem augS (h : a C ρ M fun x M1 => b C ρ M1 fun y M2 => opGetL x y M2 fun z M3 => e C ρ M3 fun w M4 => op z w M4 fun u M5 => opSet x y u M5 fun M6 => E.nx ρ M6) : sAugS a b e op C E ρ M := h
theorem par {i j : Nat} (h : r C ρ M fun ds M1 => topr ds fun x y => E.nx ((ρ.set i (some x)).set j (some y)) M1) : sPar i j r C E ρ M := h
theorem pr {x y : D} {K : D → D → Prop} (h : K x y) : topr [x, y] K := h
variable {w : DI}
theorem for_ (h : w C ρ M fun xs grd M1 => floop (g C) (t C) E grd xs ρ M1) : sFor w g t C E ρ M := h
theorem name {i : Nat} {d : D} {K : Env → Mem → Prop} (h : K (ρ.set i (some d)) M) : gName i C d ρ M K := h
theorem gnil {K : Env → Mem → Prop} (h : K ρ M) : gNil C [] ρ M K := ⟨rfl, h⟩
theorem gcons {d : D} {ds : List D} {K : Env → Mem → Prop} (h : g C d ρ M fun ρ' M' => ga C ds ρ' M' K) : gCons g ga C (d :: ds) ρ M K := h
theorem gtup {n : Nat} {xs : List D} {K : Env → Mem → Prop} (hn : xs.length = n) (h : ga C xs ρ M K) : gTup n ga C (.tup xs) ρ M K := ⟨hn, h⟩
theorem gsub {d : D} {K : Env → Mem → Prop} (h : a C ρ M fun x M1 => b C ρ M1 fun y M2 => opSet x y d M2 fun M3 => K ρ M3) : gSub a b C d ρ M K := h
/-! expressions -/
theorem var {i : Nat} {d : D} (q : ρ[i]? = some (some d)) (h : P d M) : eVar i C ρ M P := by
  show got ρ[i]? _
  rw [q]
  exact h
theorem con {d : D} (h : P d M) : eK d C ρ M P := h
theorem bin (h : a C ρ M fun x M1 => b C ρ M1 fun y M2 => op x y M2 P) : eBin op a b C ρ M P := h
theorem un {f : DUn} (h : a C ρ M fun x M1 => f x M1 P) : eUn f a C ρ M P := h
theorem enot (h : a C ρ M fun d M1 => tru d M1 fun b => P (.bl (!b)) M1) : eNot a C ρ M P := h
theorem eand (h : a C ρ M fun d M1 => tru d M1 fun c => if c = true then b C ρ M1 P else P d M1) : eAnd a b C ρ M P := h
theorem eor (h : a C ρ M fun d M1 => tru d M1 fun c => if c = true then P d M1 else b C ρ M1 P) : eOr a b C ρ M P := h
theorem eif (h : x C ρ M fun k M1 => if k = true then a C ρ M1 P else b C ρ M1 P) : eIf x a b C ρ M P := h
theorem anil {Q : List D → Mem → Prop} (h : Q [] M) : aNil C ρ M Q := h
theorem acons {Q : List D → Mem → Prop} (h : a C ρ M fun d M1 => r C ρ M1 fun ds M2 => Q (d :: ds) M2) : aCons a r C ρ M Q := h
theorem tup (h : r C ρ M fun ds M1 => ds.length ≤ sizeLine ∧ P (.tup ds) M1) : eTup r C ρ M P := h
theorem lst (h : r C ρ M fun ds M1 => ds.length ≤ sizeLine ∧ P (.ref M1.length) (M1 ++ [.lst ds])) : eLst r C ρ M P := h
theorem fn {f : DF} (h : r C ρ M fun ds M1 => f ds M1 P) : eF f r C ρ M P := h
theorem call {i : Nat} (h : r C ρ M fun ds M1 => C.call i (C.ex ρ) ds M1 P) : eCall i r C ρ M P := h
theorem meth {T : String} {m : DM} (h : a C ρ M fun d M1 => tyIs T M1 d ∧ r C ρ M1 fun ds M2 => m d ds M2 P) : eM T m a r C ρ M P := h
variable {l : DLs}
theorem enew (h : l C ρ M fun ds M1 => P (.ref M1.length) (M1 ++ [.lst ds])) : eNew l C ρ M P := h
theorem tupL (h : l C ρ M fun ds M1 => P (.tup ds) M1) : eTupL l C ρ M P := h
theorem fl {f : DC} (h : l C ρ M fun ds M1 => f ds fun r => P r M1) : eFL f l C ρ M P := h
theorem comp {tt : DT} {vs : List Nat} {Q : List D → Mem → Prop} (h : w C ρ M fun xs grd M1 => cloop (g C.calm) (tt C.calm) (e C.calm) grd (wiped ρ vs) Q xs [] M1) : lcomp w g tt e vs C ρ M Q := h
theorem cut (h : a C ρ M fun d M1 => o C ρ M1 fun x M2 => o' C ρ M2 fun y M3 => opCut d x y M3 P) : eCut a o o' C ρ M P := h
theorem onone {Q : Option Int → Mem → Prop} (h : Q none M) : oNone C ρ M Q := h
theorem osome {Q : Option Int → Mem → Prop} (h : a C ρ M fun d M1 => toin d fun i => Q (some i) M1) : oSome a C ρ M Q := h
theorem tof (h : a C ρ M fun d M1 => tobl d fun b => k b M1) : tOf a C ρ M k := h
theorem bl_ {b : Bool} {K : Bool → Prop} (h : K b) : tobl (.bl b) K := h
theorem in_ {i : Int} {K : Int → Prop} (h : K i) : toin (.int i) K := h
theorem ttru (h : a C ρ M fun d M1 => tru d M1 fun b => k b M1) : tTru a C ρ M k := h
theorem tand (h : x C ρ M fun c M1 => if c = true then y C ρ M1 k else k false M1) : tAnd x y C ρ M k := h
theorem tor (h : x C ρ M fun c M1 => if c = true then k true M1 else y C ρ M1 k) : tOr x y C ρ M k := h
theorem tnot (h : x C ρ M fun c M1 => k (!c) M1) : tNot x C ρ M k := h
theorem tyes (h : k true M) : tYesD C ρ M k := h
theorem chain (h : a C ρ M fun x M1 => b C ρ M1 fun y M2 => op x y M2 fun z M3 => tobl z fun k => if k = true then c C ρ M3 fun w M4 => op' y w M4 P else P (.bl false) M3) : eChain op op' a b c C ρ M P := h
theorem isi {T : String} (h : a C ρ M fun d M1 => toty M1 T d fun b => P (.bl b) M1) : eIsi T a C ρ M P := h
theorem ty {T t : String} {d : D} {b : Bool} {K : Bool → Prop} (h1 : tyOf M d = some t) (h2 : kitB t T = some b) (h : K b) : toty M T d K := by
  unfold toty
  rw [h1]
  dsimp only
  rw [h2]
  exact h
/-! what is walked -/
variable {Q : List D → (Mem → Prop) → Mem → Prop}
theorem iseq (h : e C ρ M fun d M1 => tosq M1 d fun xs => Q xs (grdOf d xs) M1) : iSeq e C ρ M Q := h
theorem irng1 (h : a C ρ M fun d M1 => toin d fun j => (-(2 ^ 62) ≤ j ∧ j.toNat ≤ sizeLine) ∧ Q (rngI 0 j.toNat) (fun _ => True) M1) : iRng1 a C ρ M Q := h
theorem ienum (h : a C ρ M fun d M1 => tosq M1 d fun xs => Q (enumD 0 xs) (grdOf d xs) M1) : iEnumD a C ρ M Q := h
theorem izip (h : a C ρ M fun d M1 => b C ρ M1 fun e M2 => tosq M2 d fun xs => tosq M2 e fun ys => Q (zipD xs ys) (fun M => grdOf d xs M ∧ grdOf e ys M) M2) : iZip a b C ρ M Q := h
theorem sqT {xs : List D} {K : List D → Prop} (h : K xs) : tosq M (.tup xs) K := h
theorem sqK {xs : List D} {K : List D → Prop} (h : K xs) : tosq M (.kup xs) K := h
theorem sqR {xs : List D} {K : List D → Prop} (h : K xs) : tosq M (.rol xs) K := h
theorem sqL {n : Nat} {xs : List D} {K : List D → Prop} (hM : M[n]? = some (.lst xs)) (h : K xs) : tosq M (.ref n) K := by
  show (match (match M[n]? with
    | some (.lst xs) => some xs
    | _ => none) with
    | some xs => K xs
    | none => False)
  rw [hM]
  exact h
/-! operators -/
variable {i j : Int}
theorem add (h : P (.int (i + j)) M) : opAdd (.int i) (.int j) M P := h
theorem addT {xs ys : List D} (hl : xs.length + ys.length ≤ sizeLine) (h : P (.tup (xs ++ ys)) M) : opAdd (.tup xs) (.tup ys) M P := ⟨hl, h⟩
theorem addL {m n : Nat} {xs ys : List D} (h1 : M[m]? = some (.lst xs)) (h2 : M[n]? = some (.lst ys)) (hl : xs.length + ys.length ≤ sizeLine) (h : P (.ref M.length) (M ++ [.lst (xs ++ ys)])) : opAdd (.ref m) (.ref n) M P := by
  show (match M[m]?, M[n]? with
    | some (.lst xs), some (.lst ys) => xs.length + ys.length ≤ sizeLine ∧ P (.ref M.length) (M ++ [.lst (xs ++ ys)])
    | _, _ => False)
  rw [h1, h2]
  exact ⟨hl, h⟩
theorem iadd (h : P (.int (i + j)) M) : iaAdd (.int i) (.int j) M P := h
theorem sub (h : P (.int (i - j)) M) : opSub (.int i) (.int j) M P := h
theorem mul (hc : IntMulOk i j) (h : P (.int (i * j)) M) : opMul (.int i) (.int j) M P := ⟨hc, h⟩
theorem imul (hc : IntMulOk i j) (h : P (.int (i * j)) M) : iaMul (.int i) (.int j) M P := ⟨hc, h⟩
theorem rep {m : Nat} {xs : List D} {z : Int} (h1 : M[m]? = some (.lst xs)) (hc : -(2 ^ 63) ≤ z ∧ z < 2 ^ 63 ∧ xs.length * z.toNat ≤ sizeLine) (h : P (.ref M.length) (M ++ [.lst (List.replicate z.toNat xs).flatten])) : opMul (.ref m) (.int z) M P := by
  show (match M[m]? with
    | some (.lst xs) => (-(2 ^ 63) ≤ z ∧ z < 2 ^ 63 ∧ xs.length * z.toNat ≤ sizeLine) ∧ P (.ref M.length) (M ++ [.lst (List.replicate z.toNat xs).flatten])
    | _ => False)
  rw [h1]
  exact ⟨hc, h⟩
theorem div (h0 : 0 < j) (hl : j.natAbs.log2 < 9000) (h : P (.int (i / j)) M) : opDiv (.int i) (.int j) M P := ⟨⟨h0, hl⟩, h⟩
theorem mod (h0 : 0 < j) (h : P (.int (i % j)) M) : opMod (.int i) (.int j) M P := ⟨h0, h⟩
theorem pow (hc : 0 ≤ j ∧ j ≤ 1000000 ∧ i.natAbs < 2 ^ 64) (h : P (.int (i ^ j.toNat)) M) : opPow (.int i) (.int j) M P := ⟨hc, h⟩
theorem shl (hc : 0 ≤ j ∧ j ≤ 1000000 ∧ i.natAbs < 2 ^ 64) (h : P (.int (i * 2 ^ j.toNat)) M) : opShl (.int i) (.int j) M P := ⟨hc, h⟩
theorem shr (hc : 0 ≤ j) (h : P (.int (i / 2 ^ j.toNat)) M) : opShr (.int i) (.int j) M P := ⟨hc, h⟩
theorem neg (h : P (.int (-i)) M) : opNeg (.int i) M P := h
theorem lt (h : P (.bl (decide (i < j))) M) : opLt (.int i) (.int j) M P := h
theorem le (h : P (.bl (decide (i ≤ j))) M) : opLe (.int i) (.int j) M P := h
theorem gt (h : P (.bl (decide (j < i))) M) : opGt (.int i) (.int j) M P := h
theorem ge (h : P (.bl (decide (j ≤ i))) M) : opGe (.int i) (.int j) M P := h
theorem eq_ (h : P (.bl (decide (i = j))) M) : opEq (.int i) (.int j) M P := by
  refine ⟨⟨rfl, rfl⟩, ?_⟩
  have e : PyData.eqv (toPy (.int i)) (toPy (.int j)) = decide (i = j) := by
    show PyData.eqv (.int i) (.int j) = _
    rw [Bool.eq_iff_iff]
    simp [PyData.eqv]
  rw [e]
  exact h
theorem ne_ (h : P (.bl (!decide (i = j))) M) : opNe (.int i) (.int j) M P := by
  refine ⟨⟨rfl, rfl⟩, ?_⟩
  have e : PyData.eqv (toPy (.int i)) (toPy (.int j)) = decide (i = j) := by
    show PyData.eqv (.int i) (.int j) = _
    rw [Bool.eq_iff_iff]
    simp [PyData.eqv]
  rw [e]
  exact h
theorem neB {x y : Bool} (h : P (.bl (x != y)) M) : opNe (.bl x) (.bl y) M P := by
  refine ⟨⟨rfl, rfl⟩, ?_⟩
  have e : (!PyData.eqv (toPy (.bl x)) (toPy (.bl y))) = (x != y) := by cases x <;> cases y <;> rfl
  rw [e]
  exact h
theorem eqB {x y : Bool} (h : P (.bl (x == y)) M) : opEq (.bl x) (.bl y) M P := by
  refine ⟨⟨rfl, rfl⟩, ?_⟩
  have e : PyData.eqv (toPy (.bl x)) (toPy (.bl y)) = (x == y) := by cases x <;> cases y <;> rfl
  rw [e]
  exact h
theorem neTT (h : P (.bl false) M) : opNe (.bl true) (.bl true) M P := neB h
theorem eqTT (h : P (.bl true) M) : opEq (.bl true) (.bl true) M P := eqB h
theorem neTF (h : P (.bl true) M) : opNe (.bl true) (.bl false) M P := neB h
theorem eqTF (h : P (.bl false) M) : opEq (.bl true) (.bl false) M P := eqB h
theorem neFT (h : P (.bl true) M) : opNe (.bl false) (.bl true) M P := neB h
theorem eqFT (h : P (.bl false) M) : opEq (.bl false) (.bl true) M P := eqB h
theorem neFF (h : P (.bl false) M) : opNe (.bl false) (.bl false) M P := neB h
theorem eqFF (h : P (.bl true) M) : opEq (.bl false) (.bl false) M P := eqB h
theorem is0I (h : P (.bl false) M) : opIs (.int i) .non M P := h
theorem isnt0I (h : P (.bl true) M) : opIsNot (.int i) .non M P := h
theorem is0T {ds : List D} (h : P (.bl false) M) : opIs (.tup ds) .non M P := h
theorem isnt0T {ds : List D} (h : P (.bl true) M) : opIsNot (.tup ds) .non M P := h
theorem is0S {z : Str} (h : P (.bl false) M) : opIs (.str z) .non M P := h
theorem isnt0S {z : Str} (h : P (.bl true) M) : opIsNot (.str z) .non M P := h
theorem is0B {w : Bool} (h : P (.bl false) M) : opIs (.bl w) .non M P := h
theorem isnt0B {w : Bool} (h : P (.bl true) M) : opIsNot (.bl w) .non M P := h
theorem is0R {m : Nat} (h : P (.bl false) M) : opIs (.ref m) .non M P := h
theorem isnt0R {m : Nat} (h : P (.bl true) M) : opIsNot (.ref m) .non M P := h
theorem is0N (h : P (.bl true) M) : opIs .non .non M P := h
theorem isnt0N (h : P (.bl false) M) : opIsNot .non .non M P := h
theorem is0 {d : D} (h : P (.bl (isNon d)) M) : opIs d .non M P := h
theorem isnt0 {d : D} (h : P (.bl (!isNon d)) M) : opIsNot d .non M P := h
theorem ixT {xs : List D} {d : D} (q : atI xs i = some d) (h : P d M) : opIx (.tup xs) (.int i) M P := by
  show (match atI xs i with
    | some d => P d M
    | none => False)
  rw [q]
  exact h
theorem ixK {xs : List D} {d : D} (q : atI xs i = some d) (h : P d M) : opIx (.kup xs) (.int i) M P := by
  show (match atI xs i with
    | some d => P d M
    | none => False)
  rw [q]
  exact h
theorem ixL {n : Nat} {xs : List D} {d : D} (hM : M[n]? = some (.lst xs)) (q : atI xs i = some d) (h : P d M) : opIx (.ref n) (.int i) M P := by
  show (match (match M[n]? with
    | some (.lst xs) => some xs
    | _ => none) with
    | some xs => (match atI xs i with
      | some d => P d M
      | none => False)
    | none => _)
  rw [hM]
  dsimp only
  rw [q]
  exact h
theorem getL {n : Nat} {xs : List D} {d : D} (hM : M[n]? = some (.lst xs)) (q : atI xs i = some d) (h : P d M) : opGetL (.ref n) (.int i) M P := by
  show (match M[n]? with
    | some (.lst xs) => (match atI xs i with
      | some d => P d M
      | none => False)
    | _ => False)
  rw [hM]
  dsimp only
  rw [q]
  exact h
theorem setL {n j : Nat} {xs : List D} {d : D} {K : Mem → Prop} (hM : M[n]? = some (.lst xs)) (q : ixN xs.length i = some j) (h : K (M.set n (.lst (xs.set j d)))) : opSet (.ref n) (.int i) d M K := by
  show (match M[n]? with
    | some (.lst xs) => (match ixN xs.length i with
        | some j => K (M.set n (.lst (xs.set j d)))
        | none => False)
    | some (.dK kvs) => _
    | some (.dT kvs) => _
    | _ => False)
  rw [hM]
  dsimp only
  rw [q]
  exact h
/-! built-ins, methods -/
theorem lenL {n : Nat} {xs : List D} (hM : M[n]? = some (.lst xs)) (h : P (.int xs.length) M) : fLen [.ref n] M P := by
  show (match (match M[n]? with
    | some (.lst xs) => some xs
    | _ => none) with
    | some xs => P (.int xs.length) M
    | none => _)
  rw [hM]
  exact h
theorem lenT {xs : List D} (h : P (.int xs.length) M) : fLen [.tup xs] M P := h
theorem abs_ (h : P (.int (if i < 0 then -i else i)) M) : fAbs [.int i] M P := h
theorem int_ (h : P (.int i) M) : fInt [.int i] M P := h
theorem intB {v : Bool} (h : P (.int (if v then 1 else 0)) M) : fInt [.bl v] M P := h
theorem max2 (h : P (.int (if j > i then j else i)) M) : fMax2 [.int i, .int j] M P := h
theorem min2 (h : P (.int (if j < i then j else i)) M) : fMin2 [.int i, .int j] M P := h
theorem gcd_ (h : P (.int ((Nat.gcd i.natAbs j.natAbs : Nat) : Int)) M) : fGcd [.int i, .int j] M P := h
theorem tupT {xs : List D} (h : P (.tup xs) M) : fTuple [.tup xs] M P := h
theorem tupL1 {n : Nat} {xs : List D} (hM : M[n]? = some (.lst xs)) (h : P (.tup xs) M) : fTuple [.ref n] M P := by
  show (match (match M[n]? with
    | some (.lst xs) => some xs
    | _ => none) with
    | some xs => P (.tup xs) M
    | none => False)
  rw [hM]
  exact h
theorem listL {n : Nat} {xs : List D} (hM : M[n]? = some (.lst xs)) (h : P (.ref M.length) (M ++ [.lst xs])) : fList [.ref n] M P := by
  show (match (match M[n]? with
    | some (.lst xs) => some xs
    | _ => none) with
    | some xs => P (.ref M.length) (M ++ [.lst xs])
    | none => False)
  rw [hM]
  exact h
theorem listT {xs : List D} (h : P (.ref M.length) (M ++ [.lst xs])) : fList [.tup xs] M P := h
theorem isL {n : Nat} {xs : List D} (hM : M[n]? = some (.lst xs)) : tyIs "list" M (.ref n) := by
  show (match M[n]? with
    | some (.lst _) => "list" = "list"
    | some (.dK _) => "list" = "dict"
    | some (.dT _) => "list" = "dict"
    | none => False)
  rw [hM]
theorem append {n : Nat} {xs : List D} {d : D} (hM : M[n]? = some (.lst xs)) (hl : xs.length < sizeLine) (h : P .non (M.set n (.lst (xs ++ [d])))) : mAppend (.ref n) [d] M P := by
  show (match M[n]? with
    | some (.lst xs) => xs.length < sizeLine ∧ P .non (M.set n (.lst (xs ++ [d])))
    | _ => False)
  rw [hM]
  exact ⟨hl, h⟩
theorem extend {n m : Nat} {xs ys : List D} (hM : M[n]? = some (.lst xs)) (hN : M[m]? = some (.lst ys)) (hl : xs.length + ys.length ≤ sizeLine) (h : P .non (M.set n (.lst (xs ++ ys)))) : mExtend (.ref n) [.ref m] M P := by
  show (match M[n]?, M[m]? with
    | some (.lst xs), some (.lst ys) => xs.length + ys.length ≤ sizeLine ∧ P .non (M.set n (.lst (xs ++ ys)))
    | _, _ => False)
  rw [hM, hN]
  exact ⟨hl, h⟩
theorem pop0 {n : Nat} {xs : List D} {d : D} (hM : M[n]? = some (.lst (xs ++ [d]))) (h : P d (M.set n (.lst xs))) : mPop (.ref n) [] M P := by
  show (match M[n]? with
    | some (.lst xs) => (match xs[xs.length - 1]? with
      | some y => P y (M.set n (.lst xs.dropLast))
      | none => False)
    | _ => False)
  rw [hM]
  simp
  exact h
theorem count {n : Nat} {xs : List D} {ns : List Int} {z : Int} (hM : M[n]? = some (.lst xs)) (hi : intsOf xs = some ns) (h : P (.int (ns.count z : Nat)) M) : mCount (.ref n) [.int z] M P := by
  show (match M[n]? with
    | some (.lst xs) => (match intsOf xs with
      | some ns => P (.int (ns.count z : Nat)) M
      | none => False)
    | _ => False)
  rw [hM]
  dsimp only
  rw [hi]
  exact h
theorem popAt {n k : Nat} {xs : List D} {d : D} (hM : M[n]? = some (.lst xs)) (hk : i = (k : Nat)) (hl : xs[k]? = some d) (hs : xs.length ≤ sizeLine) (h : P d (M.set n (.lst (xs.eraseIdx k)))) : mPop (.ref n) [.int i] M P := by
  subst hk
  have hlt := (List.getElem?_eq_some_iff.mp hl).1
  have hz : sizeLine = 16777216 := by decide
  show (match M[n]? with
    | some (.lst xs) => (-(2 ^ 63) ≤ ((k : Nat) : Int) ∧ ((k : Nat) : Int) < 2 ^ 63) ∧ (match seqIndex? (k : Nat) xs.length with
      | some k => (match xs[k]? with
        | some y => P y (M.set n (.lst (xs.eraseIdx k)))
        | none => False)
      | none => False)
    | _ => False)
  rw [hM]
  dsimp only
  rw [seqIndex_of (by omega) (by omega)]
  dsimp only
  rw [show ((k : Nat) : Int).toNat = k from rfl, hl]
  exact ⟨⟨by omega, by omega⟩, h⟩
end
/-! places -/
theorem ix_lt {n k : Nat} (h : k < n) : ixN n (k : Nat) = some k := by
  unfold ixN
  rw [if_pos (by omega), if_pos (by omega)]
  rfl
theorem at_nat {α : Type} {xs : List α} {k : Nat} {d : α} (h : xs[k]? = some d) : atI xs (k : Nat) = some d := by
  unfold atI
  rw [ix_lt (List.getElem?_eq_some_iff.mp h).1]
  exact h
section
variable {α : Type} {a b c d e f g : α} {l : List α}
theorem at0 : atI (a :: l) 0 = some a := at_nat (k := 0) rfl
theorem at1 : atI (a :: b :: l) 1 = some b := at_nat (k := 1) rfl
theorem at2 : atI (a :: b :: c :: l) 2 = some c := at_nat (k := 2) rfl
theorem at3 : atI (a :: b :: c :: d :: l) 3 = some d := at_nat (k := 3) rfl
theorem at4 : atI (a :: b :: c :: d :: e :: l) 4 = some e := at_nat (k := 4) rfl
theorem at5 : atI (a :: b :: c :: d :: e :: f :: l) 5 = some f := at_nat (k := 5) rfl
theorem ix0 : ixN (a :: l).length 0 = some 0 := ix_lt (k := 0) (by simp)
theorem ix1 : ixN (a :: b :: l).length 1 = some 1 := ix_lt (k := 1) (by simp)
theorem ix2 : ixN (a :: b :: c :: l).length 2 = some 2 := ix_lt (k := 2) (by simp)
end
theorem set0 {M : Mem} {n : Nat} {x d : D} {l : List D} {K : Mem → Prop} (hM : M[n]? = some (.lst (x :: l))) (h : K (M.set n (.lst (d :: l)))) : opSet (.ref n) (.int 0) d M K := setL hM ix0 h
theorem set1 {M : Mem} {n : Nat} {x y d : D} {l : List D} {K : Mem → Prop} (hM : M[n]? = some (.lst (x :: y :: l))) (h : K (M.set n (.lst (x :: d :: l)))) : opSet (.ref n) (.int 1) d M K := setL hM ix1 h
theorem k_NoneType_int : kitB "NoneType" "int" = some false := by kernel_rfl
theorem k_NoneType_bool : kitB "NoneType" "bool" = some false := by kernel_rfl
theorem k_NoneType_str : kitB "NoneType" "str" = some false := by kernel_rfl
theorem k_NoneType_tuple : kitB "NoneType" "tuple" = some false := by kernel_rfl
theorem k_NoneType_list : kitB "NoneType" "list" = some false := by kernel_rfl
theorem k_NoneType_dict : kitB "NoneType" "dict" = some false := by kernel_rfl
theorem k_bool_int : kitB "bool" "int" = some true := by kernel_rfl
theorem k_bool_bool : kitB "bool" "bool" = some true := by kernel_rfl
theorem k_bool_str : kitB "bool" "str" = some false := by kernel_rfl
theorem k_bool_tuple : kitB "bool" "tuple" = some false := by kernel_rfl
theorem k_bool_list : kitB "bool" "list" = some false := by kernel_rfl
theorem k_bool_dict : kitB "bool" "dict" = some false := by kernel_rfl
theorem k_int_int : kitB "int" "int" = some true := by kernel_rfl
theorem k_int_bool : kitB "int" "bool" = some false := by kernel_rfl
theorem k_int_str : kitB "int" "str" = some false := by kernel_rfl
theorem k_int_tuple : kitB "int" "tuple" = some false := by kernel_rfl
theorem k_int_list : kitB "int" "list" = some false := by kernel_rfl
theorem k_int_dict : kitB "int" "dict" = some false := by kernel_rfl
theorem k_str_int : kitB "str" "int" = some false := by kernel_rfl
theorem k_str_bool : kitB "str" "bool" = some false := by kernel_rfl
theorem k_str_str : kitB "str" "str" = some true := by kernel_rfl
theorem k_str_tuple : kitB "str" "tuple" = some false := by kernel_rfl
theorem k_str_list : kitB "str" "list" = some false := by kernel_rfl
theorem k_str_dict : kitB "str" "dict" = some false := by kernel_rfl
theorem k_tuple_int : kitB "tuple" "int" = some false := by kernel_rfl
theorem k_tuple_bool : kitB "tuple" "bool" = some false := by kernel_rfl
theorem k_tuple_str : kitB "tuple" "str" = some false := by kernel_rfl
theorem k_tuple_tuple : kitB "tuple" "tuple" = some true := by kernel_rfl
theorem k_tuple_list : kitB "tuple" "list" = some false := by kernel_rfl
theorem k_tuple_dict : kitB "tuple" "dict" = some false := by kernel_rfl
theorem k_list_int : kitB "list" "int" = some false := by kernel_rfl
theorem k_list_bool : kitB "list" "bool" = some false := by kernel_rfl
theorem k_list_str : kitB "list" "str" = some false := by kernel_rfl
theorem k_list_tuple : kitB "list" "tuple" = some false := by kernel_rfl
theorem k_list_list : kitB "list" "list" = some true := by kernel_rfl
theorem k_list_dict : kitB "list" "dict" = some false := by kernel_rfl
theorem k_dict_int : kitB "dict" "int" = some false := by kernel_rfl
theorem k_dict_bool : kitB "dict" "bool" = some false := by kernel_rfl
theorem k_dict_str : kitB "dict" "str" = some false := by kernel_rfl
theorem k_dict_tuple : kitB "dict" "tuple" = some false := by kernel_rfl
theorem k_dict_list : kitB "dict" "list" = some false := by kernel_rfl
theorem k_dict_dict : kitB "dict" "dict" = some true := by kernel_rfl
theorem size_is : sizeLine = 16777216 := by decide
section
variable {C : Ctx} {E : DEnds} {M : Mem} {P : Po} {e : DE} {op : DOp} {d : D} {l : List (Option D)} {y : Option D} {K : Env → Mem → Prop} {x0 x1 x2 x3 x4 x5 x6 x7 x8 x9 x10 x11 x12 x13 x14 x15 : Option D}
theorem var0 (h : P d M) : eVar 0 C (some d :: l) M P := h
theorem name0 (h : K (some d :: l) M) : gName 0 C d (y :: l) M K := h
theorem aug0 (h : e C (some d :: l) M fun y M1 => op d y M1 fun z M2 => E.nx (some z :: l) M2) : sAug 0 e op C E (some d :: l) M := h
theorem var1 (h : P d M) : eVar 1 C (x0 :: some d :: l) M P := h
theorem name1 (h : K (x0 :: some d :: l) M) : gName 1 C d (x0 :: y :: l) M K := h
theorem aug1 (h : e C (x0 :: some d :: l) M fun y M1 => op d y M1 fun z M2 => E.nx (x0 :: some z :: l) M2) : sAug 1 e op C E (x0 :: some d :: l) M := h
theorem var2 (h : P d M) : eVar 2 C (x0 :: x1 :: some d :: l) M P := h
theorem name2 (h : K (x0 :: x1 :: some d :: l) M) : gName 2 C d (x0 :: x1 :: y :: l) M K := h
theorem aug2 (h : e C (x0 :: x1 :: some d :: l) M fun y M1 => op d y M1 fun z M2 => E.nx (x0 :: x1 :: some z :: l) M2) : sAug 2 e op C E (x0 :: x1 :: some d :: l) M := h
theorem var3 (h : P d M) : eVar 3 C (x0 :: x1 :: x2 :: some d :: l) M P := h
theorem name3 (h : K (x0 :: x1 :: x2 :: some d :: l) M) : gName 3 C d (x0 :: x1 :: x2 :: y :: l) M K := h
theorem aug3 (h : e C (x0 :: x1 :: x2 :: some d :: l) M fun y M1 => op d y M1 fun z M2 => E.nx (x0 :: x1 :: x2 :: some z :: l) M2) : sAug 3 e op C E (x0 :: x1 :: x2 :: some d :: l) M := h
theorem var4 (h : P d M) : eVar 4 C (x0 :: x1 :: x2 :: x3 :: some d :: l) M P := h
theorem name4 (h : K (x0 :: x1 :: x2 :: x3 :: some d :: l) M) : gName 4 C d (x0 :: x1 :: x2 :: x3 :: y :: l) M K := h
theorem aug4 (h : e C (x0 :: x1 :: x2 :: x3 :: some d :: l) M fun y M1 => op d y M1 fun z M2 => E.nx (x0 :: x1 :: x2 :: x3 :: some z :: l) M2) : sAug 4 e op C E (x0 :: x1 :: x2 :: x3 :: some d :: l) M := h
theorem var5 (h : P d M) : eVar 5 C (x0 :: x1 :: x2 :: x3 :: x4 :: some d :: l) M P := h
theorem name5 (h : K (x0 :: x1 :: x2 :: x3 :: x4 :: some d :: l) M) : gName 5 C d (x0 :: x1 :: x2 :: x3 :: x4 :: y :: l) M K := h
theorem aug5 (h : e C (x0 :: x1 :: x2 :: x3 :: x4 :: some d :: l) M fun y M1 => op d y M1 fun z M2 => E.nx (x0 :: x1 :: x2 :: x3 :: x4 :: some z :: l) M2) : sAug 5 e op C E (x0 :: x1 :: x2 :: x3 :: x4 :: some d :: l) M := h
theorem var6 (h : P d M) : eVar 6 C (x0 :: x1 :: x2 :: x3 :: x4 :: x5 :: some d :: l) M P := h
theorem name6 (h : K (x0 :: x1 :: x2 :: x3 :: x4 :: x5 :: some d :: l) M) : gName 6 C d (x0 :: x1 :: x2 :: x3 :: x4 :: x5 :: y :: l) M K := h
theorem aug6 (h : e C (x0 :: x1 :: x2 :: x3 :: x4 :: x5 :: some d :: l) M fun y M1 => op d y M1 fun z M2 => E.nx (x0 :: x1 :: x2 :: x3 :: x4 :: x5 :: some z :: l) M2) : sAug 6 e op C E (x0 :: x1 :: x2 :: x3 :: x4 :: x5 :: some d :: l) M := h
theorem var7 (h : P d M) : eVar 7 C (x0 :: x1 :: x2 :: x3 :: x4 :: x5 :: x6 :: some d :: l) M P := h
theorem name7 (h : K (x0 :: x1 :: x2 :: x3 :: x4 :: x5 :: x6 :: some d :: l) M) : gName 7 C d (x0 :: x1 :: x2 :: x3 :: x4 :: x5 :: x6 :: y :: l) M K := h
theorem aug7 (h : e C (x0 :: x1 :: x2 :: x3 :: x4 :: x5 :: x6 :: some d :: l) M fun y M1 => op d y M1 fun z M2 => E.nx (x0 :: x1 :: x2 :: x3 :: x4 :: x5 :: x6 :: some z :: l) M2) : sAug 7 e op C E (x0 :: x1 :: x2 :: x3 :: x4 :: x5 :: x6 :: some d :: l) M := h
theorem var8 (h : P d M) : eVar 8 C (x0 :: x1 :: x2 :: x3 :: x4 :: x5 :: x6 :: x7 :: some d :: l) M P := h
theorem name8 (h : K (x0 :: x1 :: x2 :: x3 :: x4 :: x5 :: x6 :: x7 :: some d :: l) M) : gName 8 C d (x0 :: x1 :: x2 :: x3 :: x4 :: x5 :: x6 :: x7 :: y :: l) M K := h
theorem aug8 (h : e C (x0 :: x1 :: x2 :: x3 :: x4 :: x5 :: x6 :: x7 :: some d :: l) M fun y M1 => op d y M1 fun z M2 => E.nx (x0 :: x1 :: x2 :: x3 :: x4 :: x5 :: x6 :: x7 :: some z :: l) M2) : sAug 8 e op C E (x0 :: x1 :: x2 :: x3 :: x4 :: x5 :: x6 :: x7 :: some d :: l) M := h
theorem var9 (h : P d M) : eVar 9 C (x0 :: x1 :: x2 :: x3 :: x4 :: x5 :: x6 :: x7 :: x8 :: some d :: l) M P := h
theorem name9 (h : K (x0 :: x1 :: x2 :: x3 :: x4 :: x5 :: x6 :: x7 :: x8 :: some d :: l) M) : gName 9 C d (x0 :: x1 :: x2 :: x3 :: x4 :: x5 :: x6 :: x7 :: x8 :: y :: l) M K := h
theorem aug9 (h : e C (x0 :: x1 :: x2 :: x3 :: x4 :: x5 :: x6 :: x7 :: x8 :: some d :: l) M fun y M1 => op d y M1 fun z M2 => E.nx (x0 :: x1 :: x2 :: x3 :: x4 :: x5 :: x6 :: x7 :: x8 :: some z :: l) M2) : sAug 9 e op C E (x0 :: x1 :: x2 :: x3 :: x4 :: x5 :: x6 :: x7 :: x8 :: some d :: l) M := h
theorem var10 (h : P d M) : eVar 10 C (x0 :: x1 :: x2 :: x3 :: x4 :: x5 :: x6 :: x7 :: x8 :: x9 :: some d :: l) M P := h
theorem name10 (h : K (x0 :: x1 :: x2 :: x3 :: x4 :: x5 :: x6 :: x7 :: x8 :: x9 :: some d :: l) M) : gName 10 C d (x0 :: x1 :: x2 :: x3 :: x4 :: x5 :: x6 :: x7 :: x8 :: x9 :: y :: l) M K := h
theorem aug10 (h : e C (x0 :: x1 :: x2 :: x3 :: x4 :: x5 :: x6 :: x7 :: x8 :: x9 :: some d :: l) M fun y M1 => op d y M1 fun z M2 => E.nx (x0 :: x1 :: x2 :: x3 :: x4 :: x5 :: x6 :: x7 :: x8 :: x9 :: some z :: l) M2) : sAug 10 e op C E (x0 :: x1 :: x2 :: x3 :: x4 :: x5 :: x6 :: x7 :: x8 :: x9 :: some d :: l) M := h
theorem var11 (h : P d M) : eVar 11 C (x0 :: x1 :: x2 :: x3 :: x4 :: x5 :: x6 :: x7 :: x8 :: x9 :: x10 :: some d :: l) M P := h
theorem name11 (h : K (x0 :: x1 :: x2 :: x3 :: x4 :: x5 :: x6 :: x7 :: x8 :: x9 :: x10 :: some d :: l) M) : gName 11 C d (x0 :: x1 :: x2 :: x3 :: x4 :: x5 :: x6 :: x7 :: x8 :: x9 :: x10 :: y :: l) M K := h
theorem aug11 (h : e C (x0 :: x1 :: x2 :: x3 :: x4 :: x5 :: x6 :: x7 :: x8 :: x9 :: x10 :: some d :: l) M fun y M1 => op d y M1 fun z M2 => E.nx (x0 :: x1 :: x2 :: x3 :: x4 :: x5 :: x6 :: x7 :: x8 :: x9 :: x10 :: some z :: l) M2) : sAug 11 e op C E (x0 :: x1 :: x2 :: x3 :: x4 :: x5 :: x6 :: x7 :: x8 :: x9 :: x10 :: some d :: l) M := h
theorem var12 (h : P d M) : eVar 12 C (x0 :: x1 :: x2 :: x3 :: x4 :: x5 :: x6 :: x7 :: x8 :: x9 :: x10 :: x11 :: some d :: l) M P := h
theorem name12 (h : K (x0 :: x1 :: x2 :: x3 :: x4 :: x5 :: x6 :: x7 :: x8 :: x9 :: x10 :: x11 :: some d :: l) M) : gName 12 C d (x0 :: x1 :: x2 :: x3 :: x4 :: x5 :: x6 :: x7 :: x8 :: x9 :: x10 :: x11 :: y :: l) M K := h
theorem aug12 (h : e C (x0 :: x1 :: x2 :: x3 :: x4 :: x5 :: x6 :: x7 :: x8 :: x9 :: x10 :: x11 :: some d :: l) M fun y M1 => op d y M1 fun z M2 => E.nx (x0 :: x1 :: x2 :: x3 :: x4 :: x5 :: x6 :: x7 :: x8 :: x9 :: x10 :: x11 :: some z :: l) M2) : sAug 12 e op C E (x0 :: x1 :: x2 :: x3 :: x4 :: x5 :: x6 :: x7 :: x8 :: x9 :: x10 :: x11 :: some d :: l) M := h
theorem var13 (h : P d M) : eVar 13 C (x0 :: x1 :: x2 :: x3 :: x4 :: x5 :: x6 :: x7 :: x8 :: x9 :: x10 :: x11 :: x12 :: some d :: l) M P := h
theorem name13 (h : K (x0 :: x1 :: x2 :: x3 :: x4 :: x5 :: x6 :: x7 :: x8 :: x9 :: x10 :: x11 :: x12 :: some d :: l) M) : gName 13 C d (x0 :: x1 :: x2 :: x3 :: x4 :: x5 :: x6 :: x7 :: x8 :: x9 :: x10 :: x11 :: x12 :: y :: l) M K := h
theorem aug13 (h : e C (x0 :: x1 :: x2 :: x3 :: x4 :: x5 :: x6 :: x7 :: x8 :: x9 :: x10 :: x11 :: x12 :: some d :: l) M fun y M1 => op d y M1 fun z M2 => E.nx (x0 :: x1 :: x2 :: x3 :: x4 :: x5 :: x6 :: x7 :: x8 :: x9 :: x10 :: x11 :: x12 :: some z :: l) M2) : sAug 13 e op C E (x0 :: x1 :: x2 :: x3 :: x4 :: x5 :: x6 :: x7 :: x8 :: x9 :: x10 :: x11 :: x12 :: some d :: l) M := h
theorem var14 (h : P d M) : eVar 14 C (x0 :: x1 :: x2 :: x3 :: x4 :: x5 :: x6 :: x7 :: x8 :: x9 :: x10 :: x11 :: x12 :: x13 :: some d :: l) M P := h
theorem name14 (h : K (x0 :: x1 :: x2 :: x3 :: x4 :: x5 :: x6 :: x7 :: x8 :: x9 :: x10 :: x11 :: x12 :: x13 :: some d :: l) M) : gName 14 C d (x0 :: x1 :: x2 :: x3 :: x4 :: x5 :: x6 :: x7 :: x8 :: x9 :: x10 :: x11 :: x12 :: x13 :: y :: l) M K := h
theorem aug14 (h : e C (x0 :: x1 :: x2 :: x3 :: x4 :: x5 :: x6 :: x7 :: x8 :: x9 :: x10 :: x11 :: x12 :: x13 :: some d :: l) M fun y M1 => op d y M1 fun z M2 => E.nx (x0 :: x1 :: x2 :: x3 :: x4 :: x5 :: x6 :: x7 :: x8 :: x9 :: x10 :: x11 :: x12 :: x13 :: some z :: l) M2) : sAug 14 e op C E (x0 :: x1 :: x2 :: x3 :: x4 :: x5 :: x6 :: x7 :: x8 :: x9 :: x10 :: x11 :: x12 :: x13 :: some d :: l) M := h
theorem var15 (h : P d M) : eVar 15 C (x0 :: x1 :: x2 :: x3 :: x4 :: x5 :: x6 :: x7 :: x8 :: x9 :: x10 :: x11 :: x12 :: x13 :: x14 :: some d :: l) M P := h
theorem name15 (h : K (x0 :: x1 :: x2 :: x3 :: x4 :: x5 :: x6 :: x7 :: x8 :: x9 :: x10 :: x11 :: x12 :: x13 :: x14 :: some d :: l) M) : gName 15 C d (x0 :: x1 :: x2 :: x3 :: x4 :: x5 :: x6 :: x7 :: x8 :: x9 :: x10 :: x11 :: x12 :: x13 :: x14 :: y :: l) M K := h
theorem aug15 (h : e C (x0 :: x1 :: x2 :: x3 :: x4 :: x5 :: x6 :: x7 :: x8 :: x9 :: x10 :: x11 :: x12 :: x13 :: x14 :: some d :: l) M fun y M1 => op d y M1 fun z M2 => E.nx (x0 :: x1 :: x2 :: x3 :: x4 :: x5 :: x6 :: x7 :: x8 :: x9 :: x10 :: x11 :: x12 :: x13 :: x14 :: some z :: l) M2) : sAug 15 e op C E (x0 :: x1 :: x2 :: x3 :: x4 :: x5 :: x6 :: x7 :: x8 :: x9 :: x10 :: x11 :: x12 :: x13 :: x14 :: some d :: l) M := h
end
theorem cutR {xs : List D} {lo hi : Option Int} {M : Mem} {P : Po} (h : P (.ref M.length) (M ++ [.lst (cutD xs lo hi)])) : opCut (.rol xs) lo hi M P := h
theorem cutT {xs : List D} {lo hi : Option Int} {M : Mem} {P : Po} (h : P (.tup (cutD xs lo hi)) M) : opCut (.tup xs) lo hi M P := h
theorem cutL {n : Nat} {xs : List D} {lo hi : Option Int} {M : Mem} {P : Po} (hM : M[n]? = some (.lst xs)) (h : P (.ref M.length) (M ++ [.lst (cutD xs lo hi)])) : opCut (.ref n) lo hi M P := by
  show (match M[n]? with
    | some (.lst xs) => P (.ref M.length) (M ++ [.lst (cutD xs lo hi)])
    | _ => False)
  rw [hM]
  exact h
theorem cut_to {xs : List D} {m : Nat} : cutD xs none (some (m : Int)) = xs.take m := by
  unfold cutD HT.sIx
  simp
  rw [if_neg (by omega)]
  rcases Nat.le_total m xs.length with h | h
  · rw [Nat.min_eq_left h]; omega
  · rw [Nat.min_eq_right h]; omega
/-! two ways -/
theorem dec {p : Prop} [Decidable p] {A B : Prop} (h1 : p → A) (h2 : ¬ p → B) : if decide p = true then A else B := by
  by_cases h : p
  · rw [if_pos (decide_eq_true h)]; exact h1 h
  · rw [if_neg (by simpa using h)]; exact h2 h
theorem dec_not {p : Prop} [Decidable p] {A B : Prop} (h1 : ¬ p → A) (h2 : p → B) : if (!decide p) = true then A else B := by
  by_cases h : p
  · rw [if_neg (by simp [h])]; exact h2 h
  · rw [if_pos (by simp [h])]; exact h1 h
theorem yes {A B : Prop} (h : A) : if true = true then A else B := h
theorem no {A B : Prop} (h : B) : if false = true then A else B := h
theorem nyes {A B : Prop} (h : B) : if (!true) = true then A else B := h
theorem nno {A B : Prop} (h : A) : if (!false) = true then A else B := h
theorem truI {i : Int} {M : Mem} {k : Bool → Prop} (h : k (decide (i ≠ 0))) : tru (.int i) M k := by
  have e : decide (i ≠ 0) = (i != 0) := by by_cases h : i = 0 <;> simp [h]
  rw [e] at h
  exact h
theorem truB {b : Bool} {M : Mem} {k : Bool → Prop} (h : k b) : tru (.bl b) M k := h
theorem truL {n : Nat} {xs : List D} {M : Mem} {k : Bool → Prop} (hM : M[n]? = some (.lst xs)) (h : k (!xs.isEmpty)) : tru (.ref n) M k := by
  show (match M[n]? with
    | some (.lst xs) => k (!xs.isEmpty)
    | some (.dK kvs) => k (!kvs.isEmpty)
    | _ => False)
  rw [hM]
  exact h
theorem mulR {i j : Int} (h : -(2 ^ 64) < j ∧ j < 2 ^ 64) : IntMulOk i j := (L2.CMul.ok (.inr h))
theorem mulL {i j : Int} (h : -(2 ^ 64) < i ∧ i < 2 ^ 64) : IntMulOk i j := (L2.CMul.ok (.inl h))
end W
end DL

/-! the table: printed by gen.py -/
namespace DL.Law
open PySem PySem.Spec PyProof.Rows L2
abbrev top (i : Nat) : Stmt := PySem.Challenge.pw_watchedbylot_k35_draws.main.body.getD i (.Pass ⟨0, 0, 0, 0⟩)
/-- common_bottom: 0 fractions, 1 found, 2 one -/
def c_common_bottom_b1 : DS := (sAsg (eBin opDiv (eBin opMul (eVar 1) (eBin opIx (eVar 2) (eK (.int 1)))) (eF fGcd (aCons (eVar 1) (aCons (eBin opIx (eVar 2) (eK (.int 1))) aNil)))) (gName 1))
def c_common_bottom_s1 : DS := (sRet (eVar 1))
def c_common_bottom : DS := (sSeq (sAsg (eK (.int 1)) (gName 1))
(sSeq (sFor (iSeq (eVar 0)) (gName 2) c_common_bottom_b1)
c_common_bottom_s1))
def d0 : Df := ⟨"common_bottom", ["fractions"], ["fractions", "found", "one"], L2.defArgs (top 2), L2.defBody (top 2), L2.defScope (top 2)⟩
/-- dealt_place: 0 chances, 1 number, 2 bottom, 3 left, 4 place, 5 chance -/
def c_dealt_place_g1 : DG := (gTup 2 (gCons (gName 4) (gCons (gName 5) gNil)))
def c_dealt_place_b1 : DS := (sSeq (sAug 3 (eBin opMul (eBin opIx (eVar 5) (eK (.int 0))) (eBin opDiv (eVar 2) (eBin opIx (eVar 5) (eK (.int 1))))) opSub)
(sIf (tOf (eBin opLt (eVar 3) (eK (.int 0))))
(sRet (eVar 4))
sNext))
def c_dealt_place_s1 : DS := (sRet (eK .non))
def c_dealt_place : DS := (sSeq (sAsg (eCall 0 (aCons (eVar 0) aNil)) (gName 2))
(sSeq (sAsg (eBin opMod (eVar 1) (eVar 2)) (gName 3))
(sSeq (sFor (iEnumD (eVar 0)) c_dealt_place_g1 c_dealt_place_b1)
c_dealt_place_s1)))
def d1 : Df := ⟨"dealt_place", ["chances", "number"], ["chances", "number", "bottom", "left", "place", "chance"], L2.defArgs (top 4), L2.defBody (top 4), L2.defScope (top 4)⟩
/-- drawn_night: 0 lottery, 1 number, 2 lot, 3 chance -/
def c_drawn_night_g1 : DG := (gTup 2 (gCons (gName 2) (gCons (gName 3) gNil)))
def c_drawn_night : DS := (sRet (eBin opIx (eBin opIx (eVar 0) (eCall 1 (aCons (eNew (lcomp (iSeq (eVar 0)) c_drawn_night_g1 tYesD (eVar 3) [2, 3])) (aCons (eVar 1) aNil)))) (eK (.int 0))))
def d2 : Df := ⟨"drawn_night", ["lottery", "number"], ["lottery", "number", "lot", "chance"], L2.defArgs (top 5), L2.defBody (top 5), L2.defScope (top 5)⟩
/-- drawn_nights: 0 lottery, 1 numbers, 2 number -/
def c_drawn_nights_e1 : DE := (eCall 2 (aCons (eVar 0) (aCons (eVar 2) aNil)))
def c_drawn_nights : DS := (sRet (eTupL (lcomp (iSeq (eVar 1)) (gName 2) tYesD c_drawn_nights_e1 [2])))
def d3 : Df := ⟨"drawn_nights", ["lottery", "numbers"], ["lottery", "numbers", "number"], L2.defArgs (top 6), L2.defBody (top 6), L2.defScope (top 6)⟩
/-- drawn_taking: 0 chances, 1 number -/
def c_drawn_taking : DS := (sRet (eCall 1 (aCons (eF fList (aCons (eVar 0) aNil)) (aCons (eVar 1) aNil))))
def d4 : Df := ⟨"drawn_taking", ["chances", "number"], ["chances", "number"], L2.defArgs (top 7), L2.defBody (top 7), L2.defScope (top 7)⟩
/-- _law_pool: 0 script, 1 mixed, 2 great, 3 cell, 4 number -/
def c_law_pool_b1 : DS := (sSeq (sAsg (eBin opMod (eF fAbs (aCons (eF fInt (aCons (eVar 3) aNil)) aNil)) (eBin opShl (eK (.int 1)) (eK (.int 2000)))) (gName 4))
(sSeq (sAsg (eBin opMod (eF fInt (aCons (eBin opAdd (eBin opAdd (eBin opMul (eVar 1) (eK (.int 227))) (eBin opMod (eVar 4) (eK (.int 1000397)))) (eK (.int 1))) aNil)) (eK (.int 2147483647))) (gName 1))
(sIf (tOf (eBin opGe (eVar 4) (eBin opPow (eK (.int 10)) (eK (.int 18)))))
(sDrop (eM "list" mAppend (eVar 2) (aCons (eVar 4) aNil)))
sNext)))
def c_law_pool_s1 : DS := (sRet (eBin opAdd (eLst (aCons (eVar 1) (aCons (eK (.int 0)) aNil))) (eVar 2)))
def c_law_pool : DS := (sSeq (sAsg (eK (.int 350023)) (gName 1))
(sSeq (sAsg (eLst aNil) (gName 2))
(sSeq (sFor (iSeq (eCut (eVar 0) oNone (oSome (eK (.int 63))))) (gName 3) c_law_pool_b1)
c_law_pool_s1)))
def d5 : Df := ⟨"_law_pool", ["script"], ["script", "mixed", "great", "cell", "number"], L2.defArgs (top 9), L2.defBody (top 9), L2.defScope (top 9)⟩
/-- _law_take: 0 pool, 1 many, 2 number -/
def c_law_take_s1 : DS := (sSeq (sAugS (eVar 0) (eK (.int 1)) (eK (.int 1)) iaAdd)
(sSeq (sAsg (eBin opMod (eF fInt (aCons (eBin opAdd (eBin opAdd (eBin opMul (eBin opIx (eVar 0) (eK (.int 0))) (eK (.int 39373))) (eBin opMul (eBin opIx (eVar 0) (eK (.int 1))) (eK (.int 8171)))) (eK (.int 17))) aNil)) (eK (.int 2147483647))) (gSub (eVar 0) (eK (.int 0))))
(sRet (eBin opMod (eF fInt (aCons (eBin opDiv (eBin opIx (eVar 0) (eK (.int 0))) (eK (.int 88))) aNil)) (eVar 1)))))
def c_law_take : DS := (sSeq (sIf (tOf (eBin opGt (eF fLen (aCons (eVar 0) aNil)) (eK (.int 2))))
(sSeq (sAsg (eM "list" mPop (eVar 0) aNil) (gName 2))
(sIf (tOf (eBin opGt (eVar 2) (eK (.int 1))))
(sSeq (sDrop (eM "list" mAppend (eVar 0) (aCons (eBin opDiv (eVar 2) (eVar 1)) aNil)))
(sRet (eBin opMod (eF fInt (aCons (eVar 2) aNil)) (eVar 1))))
sNext))
sNext)
c_law_take_s1)
def d6 : Df := ⟨"_law_take", ["pool", "many"], ["pool", "many", "number"], L2.defArgs (top 10), L2.defBody (top 10), L2.defScope (top 10)⟩
/-- _law_mixed: 0 pool, 1 rows, 2 rest, 3 out, 4 k -/
def c_law_mixed_b1 : DS := (sDrop (eM "list" mAppend (eVar 3) (aCons (eM "list" mPop (eVar 2) (aCons (eCall 6 (aCons (eVar 0) (aCons (eF fLen (aCons (eVar 2) aNil)) aNil))) aNil)) aNil)))
def c_law_mixed_s1 : DS := (sRet (eVar 3))
def c_law_mixed : DS := (sSeq (sAsg (eF fList (aCons (eVar 1) aNil)) (gName 2))
(sSeq (sAsg (eLst aNil) (gName 3))
(sSeq (sFor (iRng1 (eF fLen (aCons (eVar 1) aNil))) (gName 4) c_law_mixed_b1)
c_law_mixed_s1)))
def d7 : Df := ⟨"_law_mixed", ["pool", "rows"], ["pool", "rows", "rest", "out", "k"], L2.defArgs (top 11), L2.defBody (top 11), L2.defScope (top 11)⟩
/-- _law_gcd: 0 one, 1 other -/
def c_law_gcd_w1 : DT := (tTru (eVar 1))
def c_law_gcd_b1 : DS := (sPar 0 1 (aCons (eVar 1) (aCons (eBin opMod (eF fInt (aCons (eVar 0) aNil)) (eVar 1)) aNil)))
def c_law_gcd_s1 : DS := (sRet (eF fAbs (aCons (eVar 0) aNil)))
def c_law_gcd : DS := (sSeq (sWhile c_law_gcd_w1 c_law_gcd_b1)
c_law_gcd_s1)
def d8 : Df := ⟨"_law_gcd", ["one", "other"], ["one", "other"], L2.defArgs (top 12), L2.defBody (top 12), L2.defScope (top 12)⟩
/-- _law_fraction: 0 top, 1 bottom, 2 common -/
def c_law_fraction : DS := (sSeq (sAsg (eCall 8 (aCons (eVar 0) (aCons (eVar 1) aNil))) (gName 2))
(sRet (eTup (aCons (eBin opDiv (eVar 0) (eVar 2)) (aCons (eBin opDiv (eVar 1) (eVar 2)) aNil)))))
def d9 : Df := ⟨"_law_fraction", ["top", "bottom"], ["top", "bottom", "common"], L2.defArgs (top 13), L2.defBody (top 13), L2.defScope (top 13)⟩
/-- _law_same: 0 told, 1 due, 2 rows, 3 one, 4 other, 5 pair -/
def c_law_same_w1 : DT := (tTru (eVar 2))
def c_law_same_b1 : DS := (sDrop (eM "list" mAppend (eVar 2) (aCons (eVar 5) aNil)))
def c_law_same_s1 : DS := (sFor (iZip (eVar 3) (eVar 4)) (gName 5) c_law_same_b1)
def c_law_same_s2 : DS := (sSeq (sIf (tOf (eBin opNe (eF fLen (aCons (eVar 3) aNil)) (eF fLen (aCons (eVar 4) aNil))))
(sRet (eK (.bl false)))
sNext)
c_law_same_s1)
def c_law_same_b2 : DS := (sSeq (sAsg (eM "list" mPop (eVar 2) aNil) (gTup 2 (gCons (gName 3) (gCons (gName 4) gNil))))
(sIf (tOr (tTru (eIsi "tuple" (eVar 4))) (tTru (eIsi "list" (eVar 4))))
(sSeq (sIf (tOr (tOf (eBin opNe (eIsi "list" (eVar 4)) (eIsi "list" (eVar 3)))) (tOf (eBin opNe (eIsi "tuple" (eVar 4)) (eIsi "tuple" (eVar 3)))))
(sRet (eK (.bl false)))
sNext)
c_law_same_s2)
(sIf (tTru (eIsi "str" (eVar 4)))
(sIf (tOr (tNot (tTru (eIsi "str" (eVar 3)))) (tOf (eBin opNe (eVar 3) (eVar 4))))
(sRet (eK (.bl false)))
sNext)
(sIf (tOf (eBin opIs (eVar 4) (eK .non)))
(sIf (tOf (eBin opIsNot (eVar 3) (eK .non)))
(sRet (eK (.bl false)))
sNext)
(sIf (tOr (tTru (eIsi "bool" (eVar 3))) (tTru (eIsi "bool" (eVar 4))))
(sIf (tOr (tNot (tTru (eIsi "bool" (eVar 3)))) (tOr (tNot (tTru (eIsi "bool" (eVar 4)))) (tOf (eBin opNe (eVar 3) (eVar 4)))))
(sRet (eK (.bl false)))
sNext)
(sIf (tOr (tNot (tTru (eIsi "int" (eVar 3)))) (tOf (eBin opNe (eVar 3) (eVar 4))))
(sRet (eK (.bl false)))
sNext))))))
def c_law_same_s3 : DS := (sRet (eK (.bl true)))
def c_law_same : DS := (sSeq (sAsg (eLst (aCons (eTup (aCons (eVar 0) (aCons (eVar 1) aNil))) aNil)) (gName 2))
(sSeq (sWhile c_law_same_w1 c_law_same_b2)
c_law_same_s3))
def d10 : Df := ⟨"_law_same", ["told", "due"], ["told", "due", "rows", "one", "other", "pair"], L2.defArgs (top 14), L2.defBody (top 14), L2.defScope (top 14)⟩
/-- _law_chances: 0 pool, 1 many, 2 whole, 3 left, 4 out, 5 common, 6 k, 7 rest, 8 part, 9 chance -/
def c_law_chances_s1 : DS := (sSeq (sDrop (eM "list" mAppend (eVar 4) (aCons (eCall 9 (aCons (eVar 8) (aCons (eVar 2) aNil))) aNil)))
(sAug 3 (eVar 8) opSub))
def c_law_chances_b1 : DS := (sSeq (sAsg (eBin opSub (eBin opSub (eVar 1) (eK (.int 1))) (eVar 6)) (gName 7))
(sSeq (sAsg (eIf (tOf (eBin opEq (eVar 7) (eK (.int 0)))) (eVar 3) (eBin opAdd (eK (.int 1)) (eCall 6 (aCons (eVar 0) (aCons (eBin opIx (eTup (aCons (eBin opSub (eVar 3) (eVar 7)) (aCons (eF fMin2 (aCons (eK (.int 2)) (aCons (eBin opSub (eVar 3) (eVar 7)) aNil))) (aCons (eK (.int 1)) aNil)))) (eCall 6 (aCons (eVar 0) (aCons (eK (.int 3)) aNil)))) aNil))))) (gName 8))
c_law_chances_s1))
def c_law_chances_b2 : DS := (sAsg (eBin opMul (eBin opDiv (eVar 5) (eCall 8 (aCons (eVar 5) (aCons (eBin opIx (eVar 9) (eK (.int 1))) aNil)))) (eBin opIx (eVar 9) (eK (.int 1)))) (gName 5))
def c_law_chances_s2 : DS := (sRet (eTup (aCons (eVar 4) (aCons (eVar 5) aNil))))
def c_law_chances_s3 : DS := (sSeq (sFor (iSeq (eVar 4)) (gName 9) c_law_chances_b2)
c_law_chances_s2)
def c_law_chances : DS := (sSeq (sAsg (eBin opIx (eTup (aCons (eVar 1) (aCons (eBin opAdd (eVar 1) (eCall 6 (aCons (eVar 0) (aCons (eK (.int 7)) aNil)))) (aCons (eBin opMul (eVar 1) (eBin opAdd (eK (.int 1)) (eCall 6 (aCons (eVar 0) (aCons (eK (.int 5)) aNil))))) (aCons (eK (.int 60)) (aCons (eK (.int 97)) (aCons (eBin opSub (eK (.int 10000)) (eCall 6 (aCons (eVar 0) (aCons (eK (.int 3)) aNil)))) aNil))))))) (eCall 6 (aCons (eVar 0) (aCons (eK (.int 6)) aNil)))) (gName 2))
(sSeq (sAsg (eF fMax2 (aCons (eVar 2) (aCons (eVar 1) aNil))) (gName 2))
(sSeq (sAsg (eVar 2) (gName 3))
(sSeq (sAsg (eLst aNil) (gName 4))
(sSeq (sAsg (eK (.int 1)) (gName 5))
(sSeq (sFor (iRng1 (eVar 1)) (gName 6) c_law_chances_b1)
c_law_chances_s3))))))
def d11 : Df := ⟨"_law_chances", ["pool", "many"], ["pool", "many", "whole", "left", "out", "common", "k", "rest", "part", "chance"], L2.defArgs (top 15), L2.defBody (top 15), L2.defScope (top 15)⟩
/-- _law_lots: 0 pool, 1 many, 2 out, 3 k, 4 lot, 5 thing -/
def c_law_lots_t1 : DT := (tOf (eBin opEq (eCall 6 (aCons (eVar 0) (aCons (eK (.int 2)) aNil))) (eK (.int 0))))
def c_law_lots_w1 : DT := (tOf (eBin (inD false) (eVar 4) (eVar 2)))
def c_law_lots_t2 : DT := (tOf (eBin (inD false) (eVar 5) (eVar 4)))
def c_law_lots_b1 : DS := (sAsg (eBin opAdd (eTupL (lcomp (iRng1 (eK (.int 20))) (gName 5) c_law_lots_t2 (eVar 5) [5])) (eTup (aCons (eBin opAdd (eF (fC cMax true) (aCons (eBin opAdd (eVar 4) (eTup (aCons (eK (.int 0)) aNil))) aNil)) (eK (.int 1))) aNil))) (gName 4))
def c_law_lots_s1 : DS := (sDrop (eM "list" mAppend (eVar 2) (aCons (eVar 4) aNil)))
def c_law_lots_b2 : DS := (sSeq (sAsg (eTupL (lcomp (iRng1 (eK (.int 5))) (gName 5) c_law_lots_t1 (eVar 5) [5])) (gName 4))
(sSeq (sWhile c_law_lots_w1 c_law_lots_b1)
c_law_lots_s1))
def c_law_lots_s2 : DS := (sRet (eVar 2))
def c_law_lots : DS := (sSeq (sAsg (eLst aNil) (gName 2))
(sSeq (sFor (iRng1 (eVar 1)) (gName 3) c_law_lots_b2)
c_law_lots_s2))
def d12 : Df := ⟨"_law_lots", ["pool", "many"], ["pool", "many", "out", "k", "lot", "thing"], L2.defArgs (top 16), L2.defBody (top 16), L2.defScope (top 16)⟩
/-- _law_dealt: 0 chances, 1 common, 2 dealt, 3 k -/
def c_law_dealt_b1 : DS := (sDrop (eM "list" mExtend (eVar 2) (aCons (eBin opMul (eLst (aCons (eVar 3) aNil)) (eBin opMul (eBin opIx (eBin opIx (eVar 0) (eVar 3)) (eK (.int 0))) (eBin opDiv (eVar 1) (eBin opIx (eBin opIx (eVar 0) (eVar 3)) (eK (.int 1)))))) aNil)))
def c_law_dealt_s1 : DS := (sRet (eVar 2))
def c_law_dealt : DS := (sSeq (sAsg (eLst aNil) (gName 2))
(sSeq (sFor (iRng1 (eF fLen (aCons (eVar 0) aNil))) (gName 3) c_law_dealt_b1)
c_law_dealt_s1))
def d13 : Df := ⟨"_law_dealt", ["chances", "common"], ["chances", "common", "dealt", "k"], L2.defArgs (top 17), L2.defBody (top 17), L2.defScope (top 17)⟩
/-- _law_numbers: 0 pool, 1 common, 2 many, 3 out, 4 k, 5 number -/
def c_law_numbers_s1 : DS := (sDrop (eM "list" mAppend (eVar 3) (aCons (eVar 5) aNil)))
def c_law_numbers_b1 : DS := (sSeq (sAsg (eBin opIx (eTup (aCons (eCall 6 (aCons (eVar 0) (aCons (eVar 1) aNil))) (aCons (eK (.int 0)) (aCons (eBin opSub (eVar 1) (eK (.int 1))) (aCons (eVar 1) (aCons (eBin opSub (eBin opMul (eK (.int 2)) (eVar 1)) (eK (.int 1))) (aCons (eBin opAdd (eBin opMul (eVar 1) (eCall 6 (aCons (eVar 0) (aCons (eK (.int 1000)) aNil)))) (eCall 6 (aCons (eVar 0) (aCons (eVar 1) aNil)))) aNil))))))) (eCall 6 (aCons (eVar 0) (aCons (eK (.int 6)) aNil)))) (gName 5))
(sSeq (sIf (tOf (eBin opEq (eCall 6 (aCons (eVar 0) (aCons (eK (.int 5)) aNil))) (eK (.int 0))))
(sAug 5 (eBin opMul (eVar 1) (eBin opAdd (eBin opPow (eK (.int 10)) (eK (.int 50))) (eCall 6 (aCons (eVar 0) (aCons (eK (.int 1000)) aNil))))) iaAdd)
sNext)
c_law_numbers_s1))
def c_law_numbers_s2 : DS := (sRet (eVar 3))
def c_law_numbers : DS := (sSeq (sAsg (eLst aNil) (gName 3))
(sSeq (sFor (iRng1 (eVar 2)) (gName 4) c_law_numbers_b1)
c_law_numbers_s2))
def d14 : Df := ⟨"_law_numbers", ["pool", "common", "many"], ["pool", "common", "many", "out", "k", "number"], L2.defArgs (top 18), L2.defBody (top 18), L2.defScope (top 18)⟩
/-- _law_asked: 0 pool, 1 many, 2 wide, 3 parts, 4 chances, 5 common, 6 lots, 7 dealt, 8 lottery, 9 numbers, 10 number, 11 nights, 12 gaps, 13 things, 14 padded, 15 k, 16 every, 17 part, 18 night -/
def c_law_asked_e1 : DE := (eCall 9 (aCons (eVar 17) (aCons (eK (.int 30)) aNil)))
def c_law_asked_e2 : DE := (eTup (aCons (eBin opIx (eVar 6) (eVar 15)) (aCons (eBin opIx (eVar 4) (eVar 15)) aNil)))
def c_law_asked_b1 : DS := (sIf (tNot (tTru (eCall 10 (aCons (eCall 2 (aCons (eVar 8) (aCons (eVar 10) aNil))) (aCons (eBin opIx (eVar 6) (eBin opIx (eVar 7) (eBin opMod (eF fInt (aCons (eVar 10) aNil)) (eVar 5)))) aNil)))))
(sRet (eK (.bl false)))
sNext)
def c_law_asked_e3 : DE := (eBin opIx (eVar 6) (eBin opIx (eVar 7) (eBin opMod (eF fInt (aCons (eVar 10) aNil)) (eVar 5))))
def c_law_asked_e4 : DE := (eBin opDiv (eCall 6 (aCons (eVar 0) (aCons (eK (.int 3)) aNil))) (eK (.int 2)))
def c_law_asked_b2 : DS := (sSeq (sDrop (eM "list" mExtend (eVar 14) (aCons (eBin opMul (eLst (aCons (eTup (aCons (eK (.int 0)) (aCons (eK (.int 1)) aNil))) aNil)) (eBin opIx (eVar 12) (eVar 15))) aNil)))
(sSeq (sDrop (eM "list" mAppend (eVar 13) (aCons (eF fLen (aCons (eVar 14) aNil)) aNil)))
(sDrop (eM "list" mAppend (eVar 14) (aCons (eBin opIx (eVar 4) (eVar 15)) aNil)))))
def c_law_asked_b3 : DS := (sIf (tNot (tTru (eCall 10 (aCons (eCall 4 (aCons (eF fTuple (aCons (eVar 14) aNil)) (aCons (eVar 10) aNil))) (aCons (eBin opIx (eVar 13) (eBin opIx (eVar 7) (eBin opMod (eF fInt (aCons (eVar 10) aNil)) (eVar 5)))) aNil)))))
(sRet (eK (.bl false)))
sNext)
def c_law_asked_t1 : DT := (tTru (eCall 10 (aCons (eVar 18) (aCons (eBin opIx (eVar 6) (eVar 15)) aNil))))
def c_law_asked_e5 : DE := (eFL cLen (lcomp (iSeq (eVar 16)) (gName 18) c_law_asked_t1 (eVar 18) [18]))
def c_law_asked_e6 : DE := (eM "list" mCount (eVar 7) (aCons (eVar 15) aNil))
def c_law_asked_s1 : DS := (sRet (eBin opEq (eNew (lcomp (iRng1 (eVar 1)) (gName 15) tYesD c_law_asked_e5 [15])) (eNew (lcomp (iRng1 (eVar 1)) (gName 15) tYesD c_law_asked_e6 [15]))))
def c_law_asked_s2 : DS := (sSeq (sAsg (eCall 3 (aCons (eVar 8) (aCons (eF fTuple (aCons (eCall 7 (aCons (eVar 0) (aCons (eLstRg (rg1 (eVar 5))) aNil))) aNil)) aNil))) (gName 16))
(sSeq (sIf (tOr (tNot (tTru (eIsi "tuple" (eVar 16)))) (tOf (eBin opNe (eF fLen (aCons (eVar 16) aNil)) (eVar 5))))
(sRet (eK (.bl false)))
sNext)
c_law_asked_s1))
def c_law_asked_s3 : DS := (sSeq (sIf (tOf (eBin opGt (eVar 5) (eK (.int 60))))
(sRet (eK (.bl true)))
sNext)
c_law_asked_s2)
def c_law_asked_s4 : DS := (sSeq (sDrop (eM "list" mExtend (eVar 14) (aCons (eBin opMul (eLst (aCons (eTup (aCons (eK (.int 0)) (aCons (eK (.int 1)) aNil))) aNil)) (eBin opIx (eVar 12) (eVar 1))) aNil)))
(sSeq (sFor (iSeq (eCut (eVar 9) oNone (oSome (eK (.int 8))))) (gName 10) c_law_asked_b3)
c_law_asked_s3))
def c_law_asked_s5 : DS := (sSeq (sAsg (eNew (lcomp (iRng1 (eBin opAdd (eVar 1) (eK (.int 1)))) (gName 15) tYesD c_law_asked_e4 [15])) (gName 12))
(sSeq (sAsg (eLst aNil) (gName 13))
(sSeq (sAsg (eLst aNil) (gName 14))
(sSeq (sFor (iRng1 (eVar 1)) (gName 15) c_law_asked_b2)
c_law_asked_s4))))
def c_law_asked_s6 : DS := (sSeq (sAsg (eTupL (lcomp (iSeq (eVar 9)) (gName 10) tYesD c_law_asked_e3 [10])) (gName 11))
(sSeq (sIf (tNot (tTru (eCall 10 (aCons (eCall 3 (aCons (eVar 8) (aCons (eF fTuple (aCons (eVar 9) aNil)) aNil))) (aCons (eVar 11) aNil)))))
(sRet (eK (.bl false)))
sNext)
c_law_asked_s5))
def c_law_asked_s7 : DS := (sSeq (sFor (iSeq (eCut (eVar 9) oNone (oSome (eK (.int 6))))) (gName 10) c_law_asked_b1)
c_law_asked_s6)
def c_law_asked_s8 : DS := (sSeq (sAsg (eCall 12 (aCons (eVar 0) (aCons (eVar 1) aNil))) (gName 6))
(sSeq (sAsg (eCall 13 (aCons (eVar 4) (aCons (eVar 5) aNil))) (gName 7))
(sSeq (sAsg (eTupL (lcomp (iRng1 (eVar 1)) (gName 15) tYesD c_law_asked_e2 [15])) (gName 8))
(sSeq (sAsg (eBin opAdd (eCall 14 (aCons (eVar 0) (aCons (eVar 5) (aCons (eIf (tTru (eVar 2)) (eK (.int 400)) (eK (.int 6))) aNil)))) (eCut (eLstRg (rg1 (eF fMin2 (aCons (eK (.int 3)) (aCons (eVar 5) aNil))))) oNone (oSome (eBin opMul (eK (.int 400)) (eF fInt (aCons (eNot (eVar 2)) aNil)))))) (gName 9))
c_law_asked_s7))))
def c_law_asked : DS := (sSeq (sIf (tOf (eBin opEq (eVar 1) (eK (.int 0))))
(sSeq (sAsg (eCall 7 (aCons (eVar 0) (aCons (eBin opAdd (eLst (aCons (eK (.int 5)) (aCons (eK (.int 3)) (aCons (eK (.int 2)) aNil)))) (eBin opIx (eTup (aCons (eLst (aCons (eK (.int 20)) aNil)) (aCons (eLst (aCons (eK (.int 10)) (aCons (eK (.int 10)) aNil))) (aCons (eLst (aCons (eK (.int 5)) (aCons (eK (.int 5)) (aCons (eK (.int 10)) aNil)))) aNil)))) (eCall 6 (aCons (eVar 0) (aCons (eK (.int 3)) aNil))))) aNil))) (gName 3))
(sSeq (sAsg (eTup (aCons (eNew (lcomp (iSeq (eVar 3)) (gName 17) tYesD c_law_asked_e1 [17])) (aCons (eK (.int 30)) aNil))) (gTup 2 (gCons (gName 4) (gCons (gName 5) gNil))))
(sAsg (eF fLen (aCons (eVar 3) aNil)) (gName 1))))
(sAsg (eCall 11 (aCons (eVar 0) (aCons (eVar 1) aNil))) (gTup 2 (gCons (gName 4) (gCons (gName 5) gNil)))))
c_law_asked_s8)
def d15 : Df := ⟨"_law_asked", ["pool", "many", "wide"], ["pool", "many", "wide", "parts", "chances", "common", "lots", "dealt", "lottery", "numbers", "number", "nights", "gaps", "things", "padded", "k", "every", "part", "night"], L2.defArgs (top 19), L2.defBody (top 19), L2.defScope (top 19)⟩
/-- law: 0 script, 1 pool, 2 wide, 3 k, 4 lottery -/
def c_law_b1 : DS := (sIf (tNot (tTru (eCall 15 (aCons (eVar 1) (aCons (eBin opMul (eBin opAdd (eK (.int 1)) (eCall 6 (aCons (eVar 1) (aCons (eK (.int 6)) aNil)))) (eF fInt (aCons (eBin opLt (eVar 3) (eK (.int 2))) aNil))) (aCons (eAnd (eVar 2) (eBin opEq (eVar 3) (eK (.int 0)))) aNil))))))
(sRet (eK (.bl false)))
sNext)
def c_law_s1 : DS := (sRet (eAnd (eCall 10 (aCons (eCall 3 (aCons (eVar 4) (aCons (eTup aNil) aNil))) (aCons (eTup aNil) aNil))) (eCall 10 (aCons (eTup (aCons (eCall 4 (aCons (eTup (aCons (eTup (aCons (eK (.int 0)) (aCons (eK (.int 1)) aNil))) (aCons (eTup (aCons (eK (.int 1)) (aCons (eK (.int 1)) aNil))) aNil))) (aCons (eK (.int 0)) aNil))) (aCons (eCall 4 (aCons (eTup (aCons (eTup (aCons (eK (.int 1)) (aCons (eK (.int 4)) aNil))) (aCons (eTup (aCons (eK (.int 0)) (aCons (eK (.int 1)) aNil))) (aCons (eTup (aCons (eK (.int 3)) (aCons (eK (.int 4)) aNil))) aNil)))) (aCons (eK (.int 5)) aNil))) aNil))) (aCons (eTup (aCons (eK (.int 1)) (aCons (eK (.int 2)) aNil))) aNil)))))
def c_law_s2 : DS := (sSeq (sAsg (eTup (aCons (eTup (aCons (eTup (aCons (eK (.int 0)) aNil)) (aCons (eTup (aCons (eK (.int 1)) (aCons (eK (.int 2)) aNil))) aNil))) (aCons (eTup (aCons (eTup (aCons (eK (.int 1)) aNil)) (aCons (eTup (aCons (eK (.int 1)) (aCons (eK (.int 3)) aNil))) aNil))) (aCons (eTup (aCons (eTup aNil) (aCons (eTup (aCons (eK (.int 1)) (aCons (eK (.int 6)) aNil))) aNil))) aNil)))) (gName 4))
(sSeq (sIf (tNot (tTru (eCall 10 (aCons (eCall 3 (aCons (eVar 4) (aCons (eTup (aCons (eK (.int 0)) (aCons (eK (.int 2)) (aCons (eK (.int 3)) (aCons (eK (.int 4)) (aCons (eK (.int 5)) (aCons (eK (.int 6)) (aCons (eK (.int 11)) aNil)))))))) aNil))) (aCons (eTup (aCons (eTup (aCons (eK (.int 0)) aNil)) (aCons (eTup (aCons (eK (.int 0)) aNil)) (aCons (eTup (aCons (eK (.int 1)) aNil)) (aCons (eTup (aCons (eK (.int 1)) aNil)) (aCons (eTup aNil) (aCons (eTup (aCons (eK (.int 0)) aNil)) (aCons (eTup aNil) aNil)))))))) aNil)))))
(sRet (eK (.bl false)))
sNext)
c_law_s1))
def c_law : DS := (sSeq (sAsg (eCall 5 (aCons (eVar 0) aNil)) (gName 1))
(sSeq (sAsg (eBin opEq (eCall 6 (aCons (eVar 1) (aCons (eK (.int 11)) aNil))) (eK (.int 6))) (gName 2))
(sSeq (sFor (iRng1 (eK (.int 3))) (gName 3) c_law_b1)
c_law_s2)))
def d16 : Df := ⟨"law", ["script"], ["script", "pool", "wide", "k", "lottery"], L2.defArgs (top 20), L2.defBody (top 20), L2.defScope (top 20)⟩
def ds : List Df := [d0, d1, d2, d3, d4, d5, d6, d7, d8, d9, d10, d11, d12, d13, d14, d15, d16]
def G : Glb := ⟨[("common_bottom", ["fractions"]), ("dealt_place", ["chances", "number"]), ("drawn_night", ["lottery", "number"]), ("drawn_nights", ["lottery", "numbers"]), ("drawn_taking", ["chances", "number"]), ("_law_pool", ["script"]), ("_law_take", ["pool", "many"]), ("_law_mixed", ["pool", "rows"]), ("_law_gcd", ["one", "other"]), ("_law_fraction", ["top", "bottom"]), ("_law_same", ["told", "due"]), ("_law_chances", ["pool", "many"]), ("_law_lots", ["pool", "many"]), ("_law_dealt", ["chances", "common"]), ("_law_numbers", ["pool", "common", "many"]), ("_law_asked", ["pool", "many", "wide"]), ("law", ["script"])], ["len", "range", "tuple", "list", "int", "bool", "abs", "max", "min", "isinstance", "zip", "enumerate", "str"], [("gcd", "math.gcd")], [], []⟩
def T : List Fn := [⟨1, 3, c_common_bottom⟩, ⟨2, 6, c_dealt_place⟩, ⟨2, 4, c_drawn_night⟩, ⟨2, 3, c_drawn_nights⟩, ⟨2, 2, c_drawn_taking⟩, ⟨1, 5, c_law_pool⟩, ⟨2, 3, c_law_take⟩, ⟨2, 5, c_law_mixed⟩, ⟨2, 2, c_law_gcd⟩, ⟨2, 3, c_law_fraction⟩, ⟨2, 6, c_law_same⟩, ⟨2, 10, c_law_chances⟩, ⟨2, 6, c_law_lots⟩, ⟨2, 4, c_law_dealt⟩, ⟨3, 6, c_law_numbers⟩, ⟨3, 19, c_law_asked⟩, ⟨1, 5, c_law⟩]
theorem k0 : ((comp G 120).Ss (cOf d0) d0.body).map (fun z => z.1) = some c_common_bottom := by kernel_rfl
theorem o0 : DfOk G d0 ⟨1, 3, c_common_bottom⟩ where
  np := rfl
  nl := rfl
  sc := ⟨by kernel_rfl, by kernel_rfl, by kernel_rfl, by decide +kernel, by kernel_rfl, by decide +kernel, by decide +kernel⟩
  code := code_ok k0
  bind := fun _ _ _ _ _ _ us hl => match us, hl with | [_], _ => rfl
theorem k1 : ((comp G 120).Ss (cOf d1) d1.body).map (fun z => z.1) = some c_dealt_place := by kernel_rfl
theorem o1 : DfOk G d1 ⟨2, 6, c_dealt_place⟩ where
  np := rfl
  nl := rfl
  sc := ⟨by kernel_rfl, by kernel_rfl, by kernel_rfl, by decide +kernel, by kernel_rfl, by decide +kernel, by decide +kernel⟩
  code := code_ok k1
  bind := fun _ _ _ _ _ _ us hl => match us, hl with | [_, _], _ => rfl
theorem k2 : ((comp G 120).Ss (cOf d2) d2.body).map (fun z => z.1) = some c_drawn_night := by kernel_rfl
theorem o2 : DfOk G d2 ⟨2, 4, c_drawn_night⟩ where
  np := rfl
  nl := rfl
  sc := ⟨by kernel_rfl, by kernel_rfl, by kernel_rfl, by decide +kernel, by kernel_rfl, by decide +kernel, by decide +kernel⟩
  code := code_ok k2
  bind := fun _ _ _ _ _ _ us hl => match us, hl with | [_, _], _ => rfl
theorem k3 : ((comp G 120).Ss (cOf d3) d3.body).map (fun z => z.1) = some c_drawn_nights := by kernel_rfl
theorem o3 : DfOk G d3 ⟨2, 3, c_drawn_nights⟩ where
  np := rfl
  nl := rfl
  sc := ⟨by kernel_rfl, by kernel_rfl, by kernel_rfl, by decide +kernel, by kernel_rfl, by decide +kernel, by decide +kernel⟩
  code := code_ok k3
  bind := fun _ _ _ _ _ _ us hl => match us, hl with | [_, _], _ => rfl
theorem k4 : ((comp G 120).Ss (cOf d4) d4.body).map (fun z => z.1) = some c_drawn_taking := by kernel_rfl
theorem o4 : DfOk G d4 ⟨2, 2, c_drawn_taking⟩ where
  np := rfl
  nl := rfl
  sc := ⟨by kernel_rfl, by kernel_rfl, by kernel_rfl, by decide +kernel, by kernel_rfl, by decide +kernel, by decide +kernel⟩
  code := code_ok k4
  bind := fun _ _ _ _ _ _ us hl => match us, hl with | [_, _], _ => rfl
theorem k5 : ((comp G 120).Ss (cOf d5) d5.body).map (fun z => z.1) = some c_law_pool := by kernel_rfl
theorem o5 : DfOk G d5 ⟨1, 5, c_law_pool⟩ where
  np := rfl
  nl := rfl
  sc := ⟨by kernel_rfl, by kernel_rfl, by kernel_rfl, by decide +kernel, by kernel_rfl, by decide +kernel, by decide +kernel⟩
  code := code_ok k5
  bind := fun _ _ _ _ _ _ us hl => match us, hl with | [_], _ => rfl
theorem k6 : ((comp G 120).Ss (cOf d6) d6.body).map (fun z => z.1) = some c_law_take := by kernel_rfl
theorem o6 : DfOk G d6 ⟨2, 3, c_law_take⟩ where
  np := rfl
  nl := rfl
  sc := ⟨by kernel_rfl, by kernel_rfl, by kernel_rfl, by decide +kernel, by kernel_rfl, by decide +kernel, by decide +kernel⟩
  code := code_ok k6
  bind := fun _ _ _ _ _ _ us hl => match us, hl with | [_, _], _ => rfl
theorem k7 : ((comp G 120).Ss (cOf d7) d7.body).map (fun z => z.1) = some c_law_mixed := by kernel_rfl
theorem o7 : DfOk G d7 ⟨2, 5, c_law_mixed⟩ where
  np := rfl
  nl := rfl
  sc := ⟨by kernel_rfl, by kernel_rfl, by kernel_rfl, by decide +kernel, by kernel_rfl, by decide +kernel, by decide +kernel⟩
  code := code_ok k7
  bind := fun _ _ _ _ _ _ us hl => match us, hl with | [_, _], _ => rfl
theorem k8 : ((comp G 120).Ss (cOf d8) d8.body).map (fun z => z.1) = some c_law_gcd := by kernel_rfl
theorem o8 : DfOk G d8 ⟨2, 2, c_law_gcd⟩ where
  np := rfl
  nl := rfl
  sc := ⟨by kernel_rfl, by kernel_rfl, by kernel_rfl, by decide +kernel, by kernel_rfl, by decide +kernel, by decide +kernel⟩
  code := code_ok k8
  bind := fun _ _ _ _ _ _ us hl => match us, hl with | [_, _], _ => rfl
theorem k9 : ((comp G 120).Ss (cOf d9) d9.body).map (fun z => z.1) = some c_law_fraction := by kernel_rfl
theorem o9 : DfOk G d9 ⟨2, 3, c_law_fraction⟩ where
  np := rfl
  nl := rfl
  sc := ⟨by kernel_rfl, by kernel_rfl, by kernel_rfl, by decide +kernel, by kernel_rfl, by decide +kernel, by decide +kernel⟩
  code := code_ok k9
  bind := fun _ _ _ _ _ _ us hl => match us, hl with | [_, _], _ => rfl
theorem k10 : ((comp G 120).Ss (cOf d10) d10.body).map (fun z => z.1) = some c_law_same := by kernel_rfl
theorem o10 : DfOk G d10 ⟨2, 6, c_law_same⟩ where
  np := rfl
  nl := rfl
  sc := ⟨by kernel_rfl, by kernel_rfl, by kernel_rfl, by decide +kernel, by kernel_rfl, by decide +kernel, by decide +kernel⟩
  code := code_ok k10
  bind := fun _ _ _ _ _ _ us hl => match us, hl with | [_, _], _ => rfl
theorem k11 : ((comp G 120).Ss (cOf d11) d11.body).map (fun z => z.1) = some c_law_chances := by kernel_rfl
theorem o11 : DfOk G d11 ⟨2, 10, c_law_chances⟩ where
  np := rfl
  nl := rfl
  sc := ⟨by kernel_rfl, by kernel_rfl, by kernel_rfl, by decide +kernel, by kernel_rfl, by decide +kernel, by decide +kernel⟩
  code := code_ok k11
  bind := fun _ _ _ _ _ _ us hl => match us, hl with | [_, _], _ => rfl
theorem k12 : ((comp G 120).Ss (cOf d12) d12.body).map (fun z => z.1) = some c_law_lots := by kernel_rfl
theorem o12 : DfOk G d12 ⟨2, 6, c_law_lots⟩ where
  np := rfl
  nl := rfl
  sc := ⟨by kernel_rfl, by kernel_rfl, by kernel_rfl, by decide +kernel, by kernel_rfl, by decide +kernel, by decide +kernel⟩
  code := code_ok k12
  bind := fun _ _ _ _ _ _ us hl => match us, hl with | [_, _], _ => rfl
theorem k13 : ((comp G 120).Ss (cOf d13) d13.body).map (fun z => z.1) = some c_law_dealt := by kernel_rfl
theorem o13 : DfOk G d13 ⟨2, 4, c_law_dealt⟩ where
  np := rfl
  nl := rfl
  sc := ⟨by kernel_rfl, by kernel_rfl, by kernel_rfl, by decide +kernel, by kernel_rfl, by decide +kernel, by decide +kernel⟩
  code := code_ok k13
  bind := fun _ _ _ _ _ _ us hl => match us, hl with | [_, _], _ => rfl
theorem k14 : ((comp G 120).Ss (cOf d14) d14.body).map (fun z => z.1) = some c_law_numbers := by kernel_rfl
theorem o14 : DfOk G d14 ⟨3, 6, c_law_numbers⟩ where
  np := rfl
  nl := rfl
  sc := ⟨by kernel_rfl, by kernel_rfl, by kernel_rfl, by decide +kernel, by kernel_rfl, by decide +kernel, by decide +kernel⟩
  code := code_ok k14
  bind := fun _ _ _ _ _ _ us hl => match us, hl with | [_, _, _], _ => rfl
theorem k15 : ((comp G 120).Ss (cOf d15) d15.body).map (fun z => z.1) = some c_law_asked := by kernel_rfl
theorem o15 : DfOk G d15 ⟨3, 19, c_law_asked⟩ where
  np := rfl
  nl := rfl
  sc := ⟨by kernel_rfl, by kernel_rfl, by kernel_rfl, by decide +kernel, by kernel_rfl, by decide +kernel, by decide +kernel⟩
  code := code_ok k15
  bind := fun _ _ _ _ _ _ us hl => match us, hl with | [_, _, _], _ => rfl
theorem k16 : ((comp G 120).Ss (cOf d16) d16.body).map (fun z => z.1) = some c_law := by kernel_rfl
theorem o16 : DfOk G d16 ⟨1, 5, c_law⟩ where
  np := rfl
  nl := rfl
  sc := ⟨by kernel_rfl, by kernel_rfl, by kernel_rfl, by decide +kernel, by kernel_rfl, by decide +kernel, by decide +kernel⟩
  code := code_ok k16
  bind := fun _ _ _ _ _ _ us hl => match us, hl with | [_], _ => rfl
theorem u0 {n : Nat} {ex : XP} {a0 : D} {M : Mem} {P : Po} (h : c_common_bottom ⟨sem T n, fun _ => ex⟩ ⟨fun _ M' => P .non M', P, fun _ _ => False, fun _ _ => False⟩ [some a0, none, none] M) : sem T (n + 1) 0 ex [a0] M P := ⟨rfl, h⟩
theorem u1 {n : Nat} {ex : XP} {a0 a1 : D} {M : Mem} {P : Po} (h : c_dealt_place ⟨sem T n, fun _ => ex⟩ ⟨fun _ M' => P .non M', P, fun _ _ => False, fun _ _ => False⟩ [some a0, some a1, none, none, none, none] M) : sem T (n + 1) 1 ex [a0, a1] M P := ⟨rfl, h⟩
theorem u2 {n : Nat} {ex : XP} {a0 a1 : D} {M : Mem} {P : Po} (h : c_drawn_night ⟨sem T n, fun _ => ex⟩ ⟨fun _ M' => P .non M', P, fun _ _ => False, fun _ _ => False⟩ [some a0, some a1, none, none] M) : sem T (n + 1) 2 ex [a0, a1] M P := ⟨rfl, h⟩
theorem u3 {n : Nat} {ex : XP} {a0 a1 : D} {M : Mem} {P : Po} (h : c_drawn_nights ⟨sem T n, fun _ => ex⟩ ⟨fun _ M' => P .non M', P, fun _ _ => False, fun _ _ => False⟩ [some a0, some a1, none] M) : sem T (n + 1) 3 ex [a0, a1] M P := ⟨rfl, h⟩
theorem u4 {n : Nat} {ex : XP} {a0 a1 : D} {M : Mem} {P : Po} (h : c_drawn_taking ⟨sem T n, fun _ => ex⟩ ⟨fun _ M' => P .non M', P, fun _ _ => False, fun _ _ => False⟩ [some a0, some a1] M) : sem T (n + 1) 4 ex [a0, a1] M P := ⟨rfl, h⟩
theorem u5 {n : Nat} {ex : XP} {a0 : D} {M : Mem} {P : Po} (h : c_law_pool ⟨sem T n, fun _ => ex⟩ ⟨fun _ M' => P .non M', P, fun _ _ => False, fun _ _ => False⟩ [some a0, none, none, none, none] M) : sem T (n + 1) 5 ex [a0] M P := ⟨rfl, h⟩
theorem u6 {n : Nat} {ex : XP} {a0 a1 : D} {M : Mem} {P : Po} (h : c_law_take ⟨sem T n, fun _ => ex⟩ ⟨fun _ M' => P .non M', P, fun _ _ => False, fun _ _ => False⟩ [some a0, some a1, none] M) : sem T (n + 1) 6 ex [a0, a1] M P := ⟨rfl, h⟩
theorem u7 {n : Nat} {ex : XP} {a0 a1 : D} {M : Mem} {P : Po} (h : c_law_mixed ⟨sem T n, fun _ => ex⟩ ⟨fun _ M' => P .non M', P, fun _ _ => False, fun _ _ => False⟩ [some a0, some a1, none, none, none] M) : sem T (n + 1) 7 ex [a0, a1] M P := ⟨rfl, h⟩
theorem u8 {n : Nat} {ex : XP} {a0 a1 : D} {M : Mem} {P : Po} (h : c_law_gcd ⟨sem T n, fun _ => ex⟩ ⟨fun _ M' => P .non M', P, fun _ _ => False, fun _ _ => False⟩ [some a0, some a1] M) : sem T (n + 1) 8 ex [a0, a1] M P := ⟨rfl, h⟩
theorem u9 {n : Nat} {ex : XP} {a0 a1 : D} {M : Mem} {P : Po} (h : c_law_fraction ⟨sem T n, fun _ => ex⟩ ⟨fun _ M' => P .non M', P, fun _ _ => False, fun _ _ => False⟩ [some a0, some a1, none] M) : sem T (n + 1) 9 ex [a0, a1] M P := ⟨rfl, h⟩
theorem u10 {n : Nat} {ex : XP} {a0 a1 : D} {M : Mem} {P : Po} (h : c_law_same ⟨sem T n, fun _ => ex⟩ ⟨fun _ M' => P .non M', P, fun _ _ => False, fun _ _ => False⟩ [some a0, some a1, none, none, none, none] M) : sem T (n + 1) 10 ex [a0, a1] M P := ⟨rfl, h⟩
theorem u11 {n : Nat} {ex : XP} {a0 a1 : D} {M : Mem} {P : Po} (h : c_law_chances ⟨sem T n, fun _ => ex⟩ ⟨fun _ M' => P .non M', P, fun _ _ => False, fun _ _ => False⟩ [some a0, some a1, none, none, none, none, none, none, none, none] M) : sem T (n + 1) 11 ex [a0, a1] M P := ⟨rfl, h⟩
theorem u12 {n : Nat} {ex : XP} {a0 a1 : D} {M : Mem} {P : Po} (h : c_law_lots ⟨sem T n, fun _ => ex⟩ ⟨fun _ M' => P .non M', P, fun _ _ => False, fun _ _ => False⟩ [some a0, some a1, none, none, none, none] M) : sem T (n + 1) 12 ex [a0, a1] M P := ⟨rfl, h⟩
theorem u13 {n : Nat} {ex : XP} {a0 a1 : D} {M : Mem} {P : Po} (h : c_law_dealt ⟨sem T n, fun _ => ex⟩ ⟨fun _ M' => P .non M', P, fun _ _ => False, fun _ _ => False⟩ [some a0, some a1, none, none] M) : sem T (n + 1) 13 ex [a0, a1] M P := ⟨rfl, h⟩
theorem u14 {n : Nat} {ex : XP} {a0 a1 a2 : D} {M : Mem} {P : Po} (h : c_law_numbers ⟨sem T n, fun _ => ex⟩ ⟨fun _ M' => P .non M', P, fun _ _ => False, fun _ _ => False⟩ [some a0, some a1, some a2, none, none, none] M) : sem T (n + 1) 14 ex [a0, a1, a2] M P := ⟨rfl, h⟩
theorem u15 {n : Nat} {ex : XP} {a0 a1 a2 : D} {M : Mem} {P : Po} (h : c_law_asked ⟨sem T n, fun _ => ex⟩ ⟨fun _ M' => P .non M', P, fun _ _ => False, fun _ _ => False⟩ [some a0, some a1, some a2, none, none, none, none, none, none, none, none, none, none, none, none, none, none, none, none] M) : sem T (n + 1) 15 ex [a0, a1, a2] M P := ⟨rfl, h⟩
theorem u16 {n : Nat} {ex : XP} {a0 : D} {M : Mem} {P : Po} (h : c_law ⟨sem T n, fun _ => ex⟩ ⟨fun _ M' => P .non M', P, fun _ _ => False, fun _ _ => False⟩ [some a0, none, none, none, none] M) : sem T (n + 1) 16 ex [a0] M P := ⟨rfl, h⟩
theorem tab : TabOk G ds T := ⟨by rfl, fun i d h => by
  match i, h with
  | 0, h => cases h; exact ⟨_, rfl, o0⟩
  | 1, h => cases h; exact ⟨_, rfl, o1⟩
  | 2, h => cases h; exact ⟨_, rfl, o2⟩
  | 3, h => cases h; exact ⟨_, rfl, o3⟩
  | 4, h => cases h; exact ⟨_, rfl, o4⟩
  | 5, h => cases h; exact ⟨_, rfl, o5⟩
  | 6, h => cases h; exact ⟨_, rfl, o6⟩
  | 7, h => cases h; exact ⟨_, rfl, o7⟩
  | 8, h => cases h; exact ⟨_, rfl, o8⟩
  | 9, h => cases h; exact ⟨_, rfl, o9⟩
  | 10, h => cases h; exact ⟨_, rfl, o10⟩
  | 11, h => cases h; exact ⟨_, rfl, o11⟩
  | 12, h => cases h; exact ⟨_, rfl, o12⟩
  | 13, h => cases h; exact ⟨_, rfl, o13⟩
  | 14, h => cases h; exact ⟨_, rfl, o14⟩
  | 15, h => cases h; exact ⟨_, rfl, o15⟩
  | 16, h => cases h; exact ⟨_, rfl, o16⟩
  | i + 17, h => exact absurd h (by simp [ds])⟩
end DL.Law

namespace DL.Law
open PySem PySem.Spec PyProof.Rows L2
local macro_rules | `(tactic| walk_at "dl_m0") => `(tactic| first | assumption | exact get_new)
local macro_rules | `(tactic| walk_at "dl_m1") => `(tactic| first | assumption | exact get_new | exact get_set_self (by walk_at "dl_m0") | exact get_app (by walk_at "dl_m0") | (rw [get_set_ne (by omega)]; walk_at "dl_m0"))
local macro_rules | `(tactic| walk_at "dl_m2") => `(tactic| first | assumption | exact get_new | exact get_set_self (by walk_at "dl_m1") | exact get_app (by walk_at "dl_m1") | (rw [get_set_ne (by omega)]; walk_at "dl_m1"))
local macro_rules | `(tactic| walk_at "dl_mem") => `(tactic| first | assumption | exact get_new | exact get_set_self (by walk_at "dl_m2") | exact get_app (by walk_at "dl_m2") | (rw [get_set_ne (by omega)]; walk_at "dl_m2"))
local macro_rules | `(tactic| walk_at "dl_mul") => `(tactic| first | exact W.mulR (by omega) | exact W.mulL (by omega) | assumption)
local macro_rules | `(tactic| walk_at "dl_at") => `(tactic| first | exact W.at0 | exact W.at1 | exact W.at2 | exact W.at3 | exact W.at4 | exact W.at5 | assumption | exact W.at_nat (by assumption) | exact W.ix0 | exact W.ix1 | exact W.ix2 | exact W.ix_lt (by omega))
local macro_rules | `(tactic| walk_at "dl_size") => `(tactic| first | assumption | (simp only [W.size_is, List.length_append, List.length_cons, List.length_nil, List.length_map, List.length_set]; omega) | (simp only [W.size_is, List.length_append, List.length_cons, List.length_nil, List.length_map, List.length_set] at *; omega))
local macro_rules | `(tactic| walk_at "dl_kit") => `(tactic| first | exact W.k_NoneType_int | exact W.k_NoneType_bool | exact W.k_NoneType_str | exact W.k_NoneType_tuple | exact W.k_NoneType_list | exact W.k_NoneType_dict | exact W.k_bool_int | exact W.k_bool_bool | exact W.k_bool_str | exact W.k_bool_tuple | exact W.k_bool_list | exact W.k_bool_dict | exact W.k_int_int | exact W.k_int_bool | exact W.k_int_str | exact W.k_int_tuple | exact W.k_int_list | exact W.k_int_dict | exact W.k_str_int | exact W.k_str_bool | exact W.k_str_str | exact W.k_str_tuple | exact W.k_str_list | exact W.k_str_dict | exact W.k_tuple_int | exact W.k_tuple_bool | exact W.k_tuple_str | exact W.k_tuple_tuple | exact W.k_tuple_list | exact W.k_tuple_dict | exact W.k_list_int | exact W.k_list_bool | exact W.k_list_str | exact W.k_list_tuple | exact W.k_list_list | exact W.k_list_dict | exact W.k_dict_int | exact W.k_dict_bool | exact W.k_dict_str | exact W.k_dict_tuple | exact W.k_dict_list | exact W.k_dict_dict)
local macro_rules | `(tactic| walk_at "dl_ev1") => `(tactic| first
  | refine W.var rfl ?_ | refine W.con ?_ | refine W.bin ?_ | refine W.acons ?_ | refine W.anil ?_ | refine W.fn ?_ | refine W.tof ?_ | refine W.bl_ ?_ | refine W.yes ?_ | refine W.no ?_ | refine W.ttru ?_ | refine W.truB ?_
  | refine W.isi ?_ | refine W.ty rfl (by walk_at "dl_kit") ?_ | refine W.asg ?_ | refine W.seq ?_ | refine W.sif ?_ | refine W.drop ?_ | refine W.meth ?_ | refine W.next ?_ | refine W.call ?_ | refine W.add ?_ | refine W.sub ?_ | refine W.int_ ?_
  | (refine' W.lenL ?hm ?_; (case hm => walk_at "dl_mem")) | refine W.lenT ?_ | refine W.mod (by omega) ?_ | refine W.mul (by walk_at "dl_mul") ?_ | refine W.lt ?_ | refine W.le ?_ | refine W.gt ?_ | refine W.ge ?_ | refine W.eq_ ?_ | refine W.ne_ ?_ | refine W.eif ?_ | refine W.tand ?_
  | refine W.tor ?_ | refine W.tnot ?_ | (refine' W.ixL ?hm ?ha ?_; (case hm => walk_at "dl_mem"); (case ha => walk_at "dl_at")) | (refine' W.append ?hm ?hl ?_; (case hm => walk_at "dl_mem"); (case hl => walk_at "dl_size")) | refine W.ret ?_ | refine W.name0 ?_ | refine W.name1 ?_ | refine W.name2 ?_ | refine W.name3 ?_ | refine W.name4 ?_ | refine W.name5 ?_ | refine W.name6 ?_
  | refine W.name7 ?_ | refine W.name8 ?_ | refine W.name9 ?_ | refine W.name10 ?_ | refine W.name11 ?_ | refine W.name12 ?_ | refine W.name13 ?_ | refine W.name14 ?_ | refine W.name15 ?_ | refine W.name ?_ | refine W.aug rfl ?_ | refine W.augS ?_
  | refine W.par ?_ | refine W.pr ?_ | refine W.for_ ?_ | refine W.retN ?_ | refine W.brk ?_ | refine W.cont ?_ | refine W.gsub ?_ | refine W.gtup rfl ?_ | refine W.gcons ?_ | refine W.gnil ?_ | refine W.un ?_ | refine W.enot ?_
  | refine W.eand ?_ | refine W.eor ?_ | refine W.tup ?_ | refine W.lst ?_ | refine W.enew ?_ | refine W.tupL ?_ | refine W.fl ?_ | refine W.comp ?_ | refine W.cut ?_ | refine W.onone ?_ | refine W.osome ?_ | refine W.tyes ?_
  | refine W.chain ?_ | refine W.iseq ?_ | refine W.irng1 ?_ | refine W.ienum ?_ | refine W.izip ?_ | refine W.in_ ?_ | refine W.iadd ?_ | refine W.imul (by walk_at "dl_mul") ?_ | refine W.div (by omega) (by first | assumption | decide) ?_ | refine W.neg ?_ | refine W.ixT (by walk_at "dl_at") ?_ | (refine' W.getL ?hm ?ha ?_; (case hm => walk_at "dl_mem"); (case ha => walk_at "dl_at"))
  | (refine' W.set0 ?hm ?_; (case hm => walk_at "dl_mem")) | (refine' W.set1 ?hm ?_; (case hm => walk_at "dl_mem")) | (refine' W.setL ?hm ?ha ?_; (case hm => walk_at "dl_mem"); (case ha => walk_at "dl_at")) | refine W.intB ?_ | refine W.abs_ ?_ | refine W.max2 ?_ | refine W.min2 ?_ | refine W.gcd_ ?_ | refine W.tupT ?_ | (refine' W.tupL1 ?hm ?_; (case hm => walk_at "dl_mem")) | (refine' W.listL ?hm ?_; (case hm => walk_at "dl_mem")) | refine W.listT ?_
  | refine W.sqT ?_ | refine W.sqK ?_ | refine W.sqR ?_ | (refine' W.sqL ?hm ?_; (case hm => walk_at "dl_mem")) | refine W.neTT ?_ | refine W.neTF ?_ | refine W.neFT ?_ | refine W.neFF ?_ | refine W.eqTT ?_ | refine W.eqTF ?_ | refine W.eqFT ?_ | refine W.eqFF ?_
  | refine W.neB ?_ | refine W.eqB ?_ | refine W.is0I ?_ | refine W.is0T ?_ | refine W.is0S ?_ | refine W.is0B ?_ | refine W.is0R ?_ | refine W.is0N ?_ | refine W.isnt0I ?_ | refine W.isnt0T ?_ | refine W.isnt0S ?_ | refine W.isnt0B ?_
  | refine W.isnt0R ?_ | refine W.isnt0N ?_ | refine W.nyes ?_ | refine W.nno ?_ | (refine' And.intro (W.isL ?hm) ?_; (case hm => walk_at "dl_mem")) | refine And.intro (show _ ≤ sizeLine by walk_at "dl_size") ?_ | (refine' W.pop0 ?hm ?_; (case hm => walk_at "dl_mem")) | (refine' W.extend ?hm ?hn ?hl ?_; (case hm => walk_at "dl_mem"); (case hn => walk_at "dl_mem"); (case hl => walk_at "dl_size")) | (refine' W.addL ?hm ?hn ?hl ?_; (case hm => walk_at "dl_mem"); (case hn => walk_at "dl_mem"); (case hl => walk_at "dl_size")) | refine W.cutR ?_ | refine W.cutT ?_ | (refine' W.cutL ?hm ?_; (case hm => walk_at "dl_mem")) | refine W.truI ?_ | (refine' W.truL ?hm ?_; (case hm => walk_at "dl_mem")))
local macro_rules | `(tactic| walk_at "dl_ev") => `(tactic| with_reducible repeat walk_at "dl_ev1")

def Pool (M : Mem) (n : Nat) : Prop := ∃ (a b : Int) (gs : List Int), M[n]? = some (.lst (.int a :: .int b :: gs.map .int)) ∧ 0 ≤ a ∧ 0 ≤ b ∧ gs.length ≤ 63 ∧ ∀ g ∈ gs, (0 : Int) ≤ g
theorem s_take {k n : Nat} {ex : XP} {M : Mem} {m : Int} {P : Po} (hp : Pool M n) (hm : 1 ≤ m) (hl : m.natAbs.log2 < 9000) (go : ∀ r M', 0 ≤ r → r < m → Kp n M M' → Pool M' n → P (.int r) M') : sem T (k + 1) 6 ex [.ref n, .int m] M P := by
  obtain ⟨a, b, gs, hM, ha, hb, hg, hgs⟩ := hp
  refine u6 ?_
  have rest : ∀ (gs : List Int) (M' : Mem) (x : Option D), M'[n]? = some (.lst (.int a :: .int b :: gs.map .int)) → Kp n M M' → gs.length ≤ 63 → (∀ g ∈ gs, (0 : Int) ≤ g) → c_law_take_s1 ⟨sem T k, fun _ => ex⟩ ⟨fun _ M' => P .non M', P, fun _ _ => False, fun _ _ => False⟩ [some (.ref n), some (.int m), x] M' := by
    intro gs M' x hM' kp hg hgs
    unfold c_law_take_s1
    walk_at "dl_ev"
    exact go _ _ (Int.emod_nonneg _ (by omega)) (Int.emod_lt_of_pos _ (by omega)) (kp.trans (Kp.set.trans Kp.set)) ⟨_, _, gs, get_set_self (get_set_self hM'), Int.emod_nonneg _ (by decide), by omega, hg, hgs⟩
  unfold c_law_take
  walk_at "dl_ev"
  refine W.dec (fun h => ?_) (fun h => ?_)
  · rcases List.eq_nil_or_concat gs with e | ⟨gs', g, e⟩
    · subst e
      simp at h
    · subst e
      have hM2 : M[n]? = some (.lst ((.int a :: .int b :: gs'.map .int) ++ [.int g])) := by rw [hM]; simp
      have hg2 : gs'.length ≤ 63 := by simp at hg; omega
      have hgs2 : ∀ y ∈ gs', (0 : Int) ≤ y := fun y hy => hgs y (by simp [hy])
      have hg0 : 0 ≤ g := hgs g (by simp)
      walk_at "dl_ev"
      refine W.dec (fun h => ?_) (fun h => ?_)
      · walk_at "dl_ev"
        refine go _ _ (Int.emod_nonneg _ (by omega)) (Int.emod_lt_of_pos _ (by omega)) (Kp.set.trans Kp.set) ⟨a, b, gs' ++ [g / m], ?_, ha, hb, by simp at hg ⊢; omega, fun y hy => ?_⟩
        · rw [get_set_self (get_set_self hM2)]; simp
        · rcases List.mem_append.mp hy with z | z
          · exact hgs2 y z
          · have : y = g / m := by simpa using z
            subst this
            exact Int.ediv_nonneg hg0 (by omega)
      · exact rest gs' _ _ (get_set_self hM2) Kp.set hg2 hgs2
  · exact rest gs M _ hM Kp.refl hg hgs

theorem s_gcd {k : Nat} {ex : XP} {M : Mem} {a b : Int} {P : Po} (ha : 0 ≤ a) (hb : 0 ≤ b) (go : P (.int ((Nat.gcd a.toNat b.toNat : Nat) : Int)) M) : sem T (k + 1) 8 ex [.int a, .int b] M P := by
  refine u8 ?_
  unfold c_law_gcd
  walk_at "dl_ev"
  refine while_inv (fun n ρ M' => ∃ x y : Int, ρ = [some (.int x), some (.int y)] ∧ 0 ≤ x ∧ 0 ≤ y ∧ Nat.gcd x.toNat y.toNat = Nat.gcd a.toNat b.toNat ∧ n = y.toNat ∧ M' = M) b.toNat ⟨a, b, rfl, ha, hb, rfl, rfl, rfl⟩ ?_
  rintro n ρ M' ⟨x, y, rfl, hx, hy, hg, rfl, rfl⟩ K hK
  unfold c_law_gcd_w1
  walk_at "dl_ev"
  refine W.dec (fun h => ?_) (fun h => ?_)
  · have hy1 : 0 < y := by omega
    unfold c_law_gcd_b1
    walk_at "dl_ev"
    have hm := Int.emod_nonneg x (by omega : y ≠ 0)
    have hl := Int.emod_lt_of_pos x hy1
    refine hK (x % y).toNat _ _ (by omega) ⟨y, x % y, rfl, hy, hm, ?_, rfl, rfl⟩
    have e : (x % y).toNat = x.toNat % y.toNat := by
      obtain ⟨p, rfl⟩ := Int.eq_ofNat_of_zero_le hx
      obtain ⟨q, rfl⟩ := Int.eq_ofNat_of_zero_le hy
      rfl
    rw [e, ← hg, Nat.gcd_comm x.toNat, Nat.gcd_rec y.toNat x.toNat, Nat.gcd_comm]
  · have hy0 : y = 0 := by omega
    subst hy0
    unfold c_law_gcd_s1
    walk_at "dl_ev"
    have e : (if x < 0 then -x else x) = ((Nat.gcd a.toNat b.toNat : Nat) : Int) := by
      rw [if_neg (by omega), ← hg]
      simp
      omega
    show P _ _
    rw [e]
    exact go
theorem log_lt {x : Nat} (h : x < 2 ^ 9000) : x.log2 < 9000 := by
  by_cases h0 : x = 0
  · subst h0; decide
  · exact (Nat.log2_lt h0).mpr h
theorem log_small {x : Int} (h0 : 0 ≤ x) (h : x < 2 ^ 64) : x.natAbs.log2 < 9000 := by
  have h1 : x.natAbs < 2 ^ 64 := by omega
  by_cases h2 : x.natAbs = 0
  · rw [h2]; decide
  · have := (Nat.log2_lt h2).mpr h1
    omega
def gI (a b : Int) : Int := ((Nat.gcd a.toNat b.toNat : Nat) : Int)
theorem gI_pos {a b : Int} (hb : 0 < b) : 0 < gI a b := by
  unfold gI
  have : 0 < Nat.gcd a.toNat b.toNat := Nat.gcd_pos_of_pos_right _ (by omega)
  omega
theorem gI_le {a b : Int} (hb : 0 < b) : gI a b ≤ b := by
  unfold gI
  have := Nat.gcd_le_right (m := a.toNat) (n := b.toNat) (by omega)
  omega
theorem gI_dvd_l {a b : Int} (ha : 0 ≤ a) : gI a b ∣ a := by
  unfold gI
  have h := Nat.gcd_dvd_left a.toNat b.toNat
  have h2 : ((Nat.gcd a.toNat b.toNat : Nat) : Int) ∣ ((a.toNat : Nat) : Int) := Int.natCast_dvd_natCast.mpr h
  rwa [Int.toNat_of_nonneg ha] at h2
theorem gI_dvd_r {a b : Int} (hb : 0 ≤ b) : gI a b ∣ b := by
  unfold gI
  have h := Nat.gcd_dvd_right a.toNat b.toNat
  have h2 : ((Nat.gcd a.toNat b.toNat : Nat) : Int) ∣ ((b.toNat : Nat) : Int) := Int.natCast_dvd_natCast.mpr h
  rwa [Int.toNat_of_nonneg hb] at h2
def fr (p : Int × Int) : D := .tup [.int p.1, .int p.2]
theorem s_fraction {k : Nat} {ex : XP} {M : Mem} {t b : Int} {P : Po} (ht : 0 ≤ t) (hb : 0 < b) (hs : b < 2 ^ 64) (go : P (fr (t / gI t b, b / gI t b)) M) : sem T (k + 2) 9 ex [.int t, .int b] M P := by
  refine u9 ?_
  unfold c_law_fraction
  walk_at "dl_ev"
  refine s_gcd ht (by omega) ?_
  have h0 := gI_pos (a := t) hb
  have h1 := gI_le (a := t) hb
  have hl := log_small (x := gI t b) (by omega) (by omega)
  show (fun d M1 => gName 2 _ d _ M1 _) (D.int (gI t b)) M
  dsimp only
  walk_at "dl_ev"
  exact go
/-! ### the common bottom -/
def bot : Int → List (Int × Int) → Int
  | f, [] => f
  | f, p :: cs => bot (f * p.2 / gI f p.2) cs
def Den (cs : List (Int × Int)) : Prop := ∀ p ∈ cs, 0 ≤ p.1 ∧ 0 < p.2 ∧ p.2 ≤ 10000
theorem gcd_nat {a b : Int} (ha : 0 ≤ a) (hb : 0 ≤ b) : ((Nat.gcd a.natAbs b.natAbs : Nat) : Int) = gI a b := by
  unfold gI
  rw [show a.natAbs = a.toNat by omega, show b.natAbs = b.toNat by omega]
theorem mul_div_g {f b g c : Int} (hg : 0 < g) (h : b = g * c) : f * b / g = f * c := by
  subst h
  rw [Int.mul_left_comm, Int.mul_ediv_cancel_left _ (by omega)]
theorem s_bottom {k : Nat} {ex : XP} {M : Mem} {d : D} {cs : List (Int × Int)} {P : Po} (hs : seqOf M d = some (cs.map fr)) (hg : grdOf d (cs.map fr) M) (hd : Den cs) (go : P (.int (bot 1 cs)) M) : sem T (k + 1) 0 ex [d] M P := by
  refine u0 ?_
  unfold c_common_bottom
  walk_at "dl_ev"
  show W.tosq M d _
  unfold W.tosq
  rw [hs]
  dsimp only
  refine floop_inv (fun xs ρ M' => ∃ (f : Int) (o : Option D) (ds : List (Int × Int)), ρ = [some d, some (.int f), o] ∧ xs = ds.map fr ∧ 0 < f ∧ Den ds ∧ bot f ds = bot 1 cs ∧ M' = M) ?_ ?_ _ _ _ ⟨1, none, cs, rfl, rfl, by decide, hd, rfl, rfl⟩
  · rintro x xs ρ M' ⟨f, o, ds, rfl, e, hf, hd, hb, rfl⟩
    cases ds with
    | nil => cases e
    | cons p ds =>
      obtain ⟨e1, e2⟩ := List.cons.inj e
      subst e1 e2
      refine ⟨hg, fun K hK => ?_⟩
      obtain ⟨h1, h2, h3⟩ := hd p List.mem_cons_self
      unfold c_common_bottom_b1
      unfold fr
      walk_at "dl_ev"
      have g1 := gI_pos (a := f) h2
      have g2 := gI_le (a := f) h2
      rw [gcd_nat (by omega) (by omega)]
      have hl := log_small (x := gI f p.2) (by omega) (by omega)
      walk_at "dl_ev"
      refine hK _ _ ⟨f * p.2 / gI f p.2, _, ds, rfl, rfl, ?_, fun q hq => hd q (List.mem_cons_of_mem _ hq), hb, rfl⟩
      obtain ⟨c, hc⟩ := gI_dvd_r (a := f) (b := p.2) (by omega)
      have : f * p.2 / gI f p.2 = f * c := mul_div_g g1 hc
      rw [this]
      have hc0 : 0 < c := by
        rcases Int.lt_trichotomy c 0 with z | z | z
        · have := Int.mul_neg_of_pos_of_neg g1 z; omega
        · subst z; simp at hc; omega
        · exact z
      exact Int.mul_pos hf hc0
  · rintro ρ M' ⟨f, o, ds, rfl, e, hf, hd, hb, rfl⟩
    cases ds with
    | cons p ds => cases e
    | nil =>
      refine ⟨hg, ?_⟩
      unfold c_common_bottom_s1
      walk_at "dl_ev"
      have hb : f = bot 1 cs := hb
      rw [hb]
      exact go

/-- the place that number left of bottom falls to -/
def pl (bottom : Int) : Int → Nat → List (Int × Int) → Option Nat
  | _, _, [] => none
  | l, i, p :: cs => if l - p.1 * (bottom / p.2) < 0 then some i else pl bottom (l - p.1 * (bottom / p.2)) (i + 1) cs
def plD : Option Nat → D
  | some i => .int (i : Nat)
  | none => .non
theorem bot_pos : ∀ {cs : List (Int × Int)} {f : Int}, 0 < f → Den cs → 0 < bot f cs
  | [], _, h, _ => h
  | p :: cs, f, h, hd => by
    obtain ⟨h1, h2, h3⟩ := hd p List.mem_cons_self
    show 0 < bot (f * p.2 / gI f p.2) cs
    refine bot_pos ?_ fun q hq => hd q (List.mem_cons_of_mem _ hq)
    have g1 := gI_pos (a := f) h2
    obtain ⟨c, hc⟩ := gI_dvd_r (a := f) (b := p.2) (by omega)
    rw [mul_div_g g1 hc]
    have hc0 : 0 < c := by
      rcases Int.lt_trichotomy c 0 with z | z | z
      · have := Int.mul_neg_of_pos_of_neg g1 z; omega
      · subst z; simp at hc; omega
      · exact z
    exact Int.mul_pos h hc0
theorem s_place {k : Nat} {ex : XP} {M : Mem} {d : D} {cs : List (Int × Int)} {j : Int} {P : Po} (hs : seqOf M d = some (cs.map fr)) (hg : grdOf d (cs.map fr) M) (hd : Den cs) (hp : ∀ p ∈ cs, p.1 ≤ 10000) (go : P (plD (pl (bot 1 cs) (j % bot 1 cs) 0 cs)) M) : sem T (k + 2) 1 ex [d, .int j] M P := by
  refine u1 ?_
  unfold c_dealt_place
  walk_at "dl_ev"
  refine s_bottom hs hg hd ?_
  have hb := bot_pos (cs := cs) (f := 1) (by decide) hd
  walk_at "dl_ev"
  unfold W.tosq
  rw [hs]
  dsimp only
  refine floop_inv (fun xs ρ M' => ∃ (l : Int) (i : Nat) (o1 o2 : Option D) (ds : List (Int × Int)), ρ = [some d, some (.int j), some (.int (bot 1 cs)), some (.int l), o1, o2] ∧ xs = enumD i (ds.map fr) ∧ (∀ p ∈ ds, p ∈ cs) ∧ pl (bot 1 cs) l i ds = pl (bot 1 cs) (j % bot 1 cs) 0 cs ∧ M' = M) ?_ ?_ _ _ _ ⟨_, 0, none, none, cs, rfl, rfl, fun _ h => h, rfl, rfl⟩
  · rintro x xs ρ M' ⟨l, i, o1, o2, ds, rfl, e, hin, hpl, rfl⟩
    cases ds with
    | nil => cases e
    | cons p ds =>
      obtain ⟨e1, e2⟩ := List.cons.inj e
      subst e1 e2
      refine ⟨hg, fun K hK => ?_⟩
      obtain ⟨h1, h2, h3⟩ := hd p (hin p List.mem_cons_self)
      have h4 := hp p (hin p List.mem_cons_self)
      have hl := log_small (x := p.2) (by omega) (by omega)
      have hpl : (if l - p.1 * (bot 1 cs / p.2) < 0 then some i else pl (bot 1 cs) (l - p.1 * (bot 1 cs / p.2)) (i + 1) ds) = _ := hpl
      unfold c_dealt_place_g1 c_dealt_place_b1 fr
      walk_at "dl_ev"
      refine W.dec (fun h => ?_) (fun h => ?_)
      · rw [if_pos h] at hpl
        rw [← hpl] at go
        walk_at "dl_ev"
        exact go
      · rw [if_neg h] at hpl
        walk_at "dl_ev"
        exact hK _ _ ⟨_, i + 1, _, _, ds, rfl, rfl, fun q hq => hin q (List.mem_cons_of_mem _ hq), hpl, rfl⟩
  · rintro ρ M' ⟨l, i, o1, o2, ds, rfl, e, hin, hpl, rfl⟩
    cases ds with
    | cons p ds => cases e
    | nil =>
      refine ⟨hg, ?_⟩
      have hpl : none = _ := hpl
      rw [← hpl] at go
      unfold c_dealt_place_s1
      walk_at "dl_ev"
      exact go
theorem seq_new {M : Mem} {xs : List D} : seqOf (M ++ [.lst xs]) (.ref M.length) = some xs := by
  show (match (M ++ [Cell.lst xs])[M.length]? with | some (.lst xs) => some xs | _ => none) = _
  rw [get_new]
theorem grd_new {M : Mem} {xs : List D} : grdOf (.ref M.length) xs (M ++ [.lst xs]) := by
  show (M ++ [Cell.lst xs])[M.length]? = some (.lst xs)
  exact get_new
/-- a lottery -/
def lot (q : D × (Int × Int)) : D := .tup [q.1, fr q.2]
def Lots (ls : List (D × (Int × Int))) : Prop := Den (ls.map Prod.snd) ∧ (∀ p ∈ ls.map Prod.snd, p.1 ≤ 10000) ∧ ls.length ≤ 1000
def Ap (M M' : Mem) : Prop := ∃ N, M' = M ++ N
theorem Ap.refl {M : Mem} : Ap M M := ⟨[], by simp⟩
theorem Ap.trans {M M' M'' : Mem} (a : Ap M M') (b : Ap M' M'') : Ap M M'' := by
  obtain ⟨N, rfl⟩ := a
  obtain ⟨N', rfl⟩ := b
  exact ⟨N ++ N', by simp⟩
theorem Ap.get {M M' : Mem} {n : Nat} {c : Cell} (a : Ap M M') (h : M[n]? = some c) : M'[n]? = some c := by
  obtain ⟨N, rfl⟩ := a
  exact get_app h
theorem Ap.kp {M M' : Mem} {n : Nat} (a : Ap M M') : Kp n M M' := by
  obtain ⟨N, rfl⟩ := a
  exact Kp.app
theorem Ap.pool {M M' : Mem} {n : Nat} (a : Ap M M') (h : Pool M n) : Pool M' n := by
  obtain ⟨x, y, gs, h1, h2⟩ := h
  exact ⟨x, y, gs, a.get h1, h2⟩
theorem s_night {k : Nat} {ex : XP} {M : Mem} {ls : List (D × (Int × Int))} {j : Int} {i : Nat} {q : D × (Int × Int)} {P : Po} (hl : Lots ls) (hi : pl (bot 1 (ls.map Prod.snd)) (j % bot 1 (ls.map Prod.snd)) 0 (ls.map Prod.snd) = some i) (hq : ls[i]? = some q) (go : ∀ M', Ap M M' → P q.1 M') : sem T (k + 3) 2 ex [.tup (ls.map lot), .int j] M P := by
  refine u2 ?_
  unfold c_drawn_night
  walk_at "dl_ev"
  refine cloop_pure (fun _ => true) (fun x => match x with | .tup [_, c] => c | _ => .non) True.intro _ _ ?_ ?_
  · intro x hx acc K hK
    obtain ⟨q, _, rfl⟩ := List.mem_map.mp hx
    unfold c_drawn_night_g1 lot
    walk_at "dl_ev"
    exact hK
  · have e : ((ls.map lot).filter fun _ => true).map (fun x => match x with | .tup [_, c] => c | _ => D.non) = (ls.map Prod.snd).map fr := by
      rw [List.filter_eq_self.mpr (fun _ _ => rfl), List.map_map, List.map_map]
      rfl
    rw [List.nil_append, e]
    walk_at "dl_ev"
    refine s_place (cs := ls.map Prod.snd) seq_new grd_new hl.1 hl.2.1 ?_
    rw [hi]
    unfold plD
    have hq2 : (ls.map lot)[i]? = some (lot q) := by rw [List.getElem?_map, hq]; rfl
    refine W.ixT (W.at_nat hq2) ?_
    unfold lot
    walk_at "dl_ev"
    exact go _ ⟨_, rfl⟩
/-- the lots that numbers draw -/
def Draws (ls : List (D × (Int × Int))) (js : List Int) (ds : List D) : Prop := Paired (fun j d => ∃ i q, pl (bot 1 (ls.map Prod.snd)) (j % bot 1 (ls.map Prod.snd)) 0 (ls.map Prod.snd) = some i ∧ ls[i]? = some q ∧ q.1 = d) js ds

theorem s_nights {k : Nat} {ex : XP} {ls : List (D × (Int × Int))} {js : List Int} {ds : List D} {P : Po} {M : Mem} (hl : Lots ls) (hd : Draws ls js ds) (go : ∀ M', Ap M M' → P (.tup ds) M') : sem T (k + 4) 3 ex [.tup (ls.map lot), .tup (js.map .int)] M P := by
  refine u3 ?_
  unfold c_drawn_nights
  walk_at "dl_ev"
  refine cloop_inv (fun xs acc M' => ∃ (js' : List Int) (ds' : List D), xs = js'.map .int ∧ Draws ls js' ds' ∧ acc ++ ds' = ds ∧ Ap M M') ?_ ?_ _ _ _ ⟨js, ds, rfl, hd, rfl, Ap.refl⟩
  · rintro x xs acc M' ⟨js', ds', e, h, ha, ap⟩
    cases h with
    | nil => cases e
    | @cons j d js' ds' h1 h2 =>
      obtain ⟨e1, e2⟩ := List.cons.inj e
      subst e1 e2
      obtain ⟨i, q, hi, hq, rfl⟩ := h1
      refine ⟨True.intro, fun K hK => ?_⟩
      unfold c_drawn_nights_e1
      walk_at "dl_ev"
      refine s_night hl hi hq fun M'' ap' => ?_
      walk_at "dl_ev"
      exact hK _ _ ⟨js', ds', rfl, h2, by rw [List.append_assoc]; exact ha, ap.trans ap'⟩
  · rintro acc M' ⟨js', ds', e, h, ha, ap⟩
    cases h with
    | cons h1 h2 => cases e
    | nil =>
      refine ⟨True.intro, ?_⟩
      rw [List.append_nil] at ha
      subst ha
      exact go M' ap
theorem s_taking {k : Nat} {ex : XP} {M : Mem} {cs : List (Int × Int)} {j : Int} {P : Po} (hd : Den cs) (hp : ∀ p ∈ cs, p.1 ≤ 10000) (go : ∀ M', Ap M M' → P (plD (pl (bot 1 cs) (j % bot 1 cs) 0 cs)) M') : sem T (k + 3) 4 ex [.tup (cs.map fr), .int j] M P := by
  refine u4 ?_
  unfold c_drawn_taking
  walk_at "dl_ev"
  refine s_place (cs := cs) seq_new grd_new hd hp ?_
  exact go _ ⟨_, rfl⟩

theorem Pool.lt {M : Mem} {n : Nat} (h : Pool M n) : n < M.length := by
  obtain ⟨a, b, gs, hM, _⟩ := h
  exact lt_of_get hM
theorem Pool.keep {M M' : Mem} {n : Nat} (h : Pool M n) (e : M'[n]? = M[n]?) : Pool M' n := by
  obtain ⟨a, b, gs, hM, r⟩ := h
  exact ⟨a, b, gs, e.trans hM, r⟩
theorem rngI_length (lo : Int) (n : Nat) : (rngI lo n).length = n := by simp [rngI]
theorem s_mixed {k n r : Nat} {ex : XP} {M : Mem} {xs : List D} {P : Po} (hp : Pool M n) (hr : M[r]? = some (.lst xs)) (hn : r ≠ n) (hl : xs.length ≤ 100000) (go : ∀ q ys M', Kp n M M' → Pool M' n → M.length ≤ q → M'[q]? = some (.lst ys) → ys.Perm xs → P (.ref q) M') : sem T (k + 2) 7 ex [.ref n, .ref r] M P := by
  have hln := hp.lt
  refine u7 ?_
  unfold c_law_mixed
  walk_at "dl_ev"
  have sz : sizeLine = 16777216 := by decide
  refine ⟨⟨by omega, by omega⟩, ?_⟩
  refine floop_inv (fun js ρ M' => ∃ (o : Option D) (zs ys : List D), ρ = [some (.ref n), some (.ref r), some (.ref M.length), some (.ref (M ++ [Cell.lst xs]).length), o] ∧ js.length = zs.length ∧ M'[M.length]? = some (.lst zs) ∧ M'[(M ++ [Cell.lst xs]).length]? = some (.lst ys) ∧ (ys ++ zs).Perm xs ∧ Pool M' n ∧ Kp n M M') ?_ ?_ _ _ _
    ⟨none, xs, [], rfl, by rw [rngI_length]; simp, get_app get_new, get_new, by simp, (hp.keep (by rw [List.append_assoc, List.getElem?_append_left hln])), Kp.app.trans Kp.app⟩
  · rintro x js ρ M' ⟨o, zs, ys, rfl, hlen, h1, h2, hpm, hpool, kp⟩
    refine ⟨True.intro, fun K hK => ?_⟩
    have hz : 0 < zs.length := by rw [← hlen]; simp
    have hzl : zs.length ≤ 100000 := by have := hpm.length_eq; simp at this; omega
    have hyl : ys.length ≤ 100000 := by have := hpm.length_eq; simp at this; omega
    unfold c_law_mixed_b1
    walk_at "dl_ev"
    refine s_take hpool (by omega) (log_small (by omega) (by omega)) fun w M2 hw0 hw1 kp2 hp2 => ?_
    have g1 : M2[M.length]? = some (.lst zs) := kp2.get h1 (by omega)
    have g2 : M2[(M ++ [Cell.lst xs]).length]? = some (.lst ys) := kp2.get h2 (by simp; omega)
    have hwl : w.toNat < zs.length := by omega
    walk_at "dl_ev"
    refine W.popAt g1 (by omega : w = ((w.toNat : Nat) : Int)) (List.getElem?_eq_getElem hwl) (by omega) ?_
    have g3 : (M2.set M.length (.lst (zs.eraseIdx w.toNat)))[(M ++ [Cell.lst xs]).length]? = some (.lst ys) := by rw [get_set_ne (by simp)]; exact g2
    walk_at "dl_ev"
    refine hK _ _ ⟨_, zs.eraseIdx w.toNat, ys ++ [zs[w.toNat]], rfl, ?_, ?_, get_set_self g3, ?_, ?_, ?_⟩
    · rw [List.length_eraseIdx, if_pos hwl]
      simp at hlen
      omega
    · rw [get_set_ne (by simp), get_set_self g1]
    · refine List.Perm.trans ?_ hpm
      rw [List.append_assoc, List.singleton_append]
      refine List.Perm.append_left _ ?_
      have h := List.eraseIdx_eq_take_drop_succ zs w.toNat
      rw [h]
      have e2 : zs = zs.take w.toNat ++ zs[w.toNat] :: zs.drop (w.toNat + 1) := by
        conv => lhs; rw [← List.take_append_drop w.toNat zs, List.drop_eq_getElem_cons hwl]
      conv => rhs; rw [e2]
      exact List.perm_middle.symm
    · refine hp2.keep ?_
      rw [get_set_ne (by simp; omega), get_set_ne (by omega)]
    · exact ((kp.trans kp2).wr (Nat.le_refl _)).wr (by simp)
  · rintro ρ M' ⟨o, zs, ys, rfl, hlen, h1, h2, hpm, hpool, kp⟩
    refine ⟨True.intro, ?_⟩
    have : zs = [] := List.eq_nil_of_length_eq_zero hlen.symm
    subst this
    rw [List.append_nil] at hpm
    unfold c_law_mixed_s1
    walk_at "dl_ev"
    exact go _ ys M' kp hpool (by simp) h2 hpm
/-! ### _law_same -/
inductive Val : D → Prop
  | int (i : Int) : Val (.int i)
  | tup (xs : List D) (h : ∀ x ∈ xs, Val x) : Val (.tup xs)
mutual
def sz : D → Nat
  | .tup xs => szs xs + 1
  | _ => 1
def szs : List D → Nat
  | [] => 0
  | x :: xs => sz x + szs xs
end
theorem sz_pos (d : D) : 0 < sz d := by cases d <;> simp [sz]
def pr (p : D × D) : D := .tup [p.1, p.2]
def ssz (st : List (D × D)) : Nat := (st.map fun p => sz p.2).sum
theorem ssz_app (a b : List (D × D)) : ssz (a ++ b) = ssz a + ssz b := by simp [ssz]
theorem ssz_len (st : List (D × D)) : st.length ≤ ssz st := by
  induction st with
  | nil => simp
  | cons p st ih =>
    have := sz_pos p.2
    simp only [ssz, List.map_cons, List.sum_cons, List.length_cons] at *
    omega
theorem ssz_zip : ∀ (xs ys : List D), xs.length = ys.length → ssz (xs.zip ys) = szs ys
  | [], [], _ => rfl
  | x :: xs, y :: ys, h => by
    have := ssz_zip xs ys (by simpa using h)
    simp only [ssz, List.zip_cons_cons, List.map_cons, List.sum_cons, szs] at *
    omega
  | [], _ :: _, h => by simp at h
  | _ :: _, [], h => by simp at h
theorem zip_eq : ∀ {xs ys : List D}, xs.length = ys.length → ((∀ p ∈ xs.zip ys, p.1 = p.2) ↔ xs = ys)
  | [], [], _ => by simp
  | x :: xs, y :: ys, h => by
    have ih := zip_eq (xs := xs) (ys := ys) (by simpa using h)
    rw [List.zip_cons_cons, List.forall_mem_cons, ih]
    simp
  | [], _ :: _, h => by simp at h
  | _ :: _, [], h => by simp at h
theorem set_new {M : Mem} {c c' : Cell} : (M ++ [c]).set M.length c' = M ++ [c'] := by
  rw [List.set_append_right _ _ (Nat.le_refl _)]
  simp
theorem s_same {k : Nat} {ex : XP} {M : Mem} {a b : D} {P : Po} (ha : Val a) (hb : Val b) (hs : sz b ≤ 1000000) (go : ∀ M' r, Ap M M' → (r = true ↔ a = b) → P (.bl r) M') : sem T (k + 1) 10 ex [a, b] M P := by
  refine u10 ?_
  unfold c_law_same
  walk_at "dl_ev"
  have szl : sizeLine = 16777216 := by decide
  refine while_inv (fun n ρ M' => ∃ (st : List (D × D)) (o3 o4 o5 : Option D), ρ = [some a, some b, some (.ref M.length), o3, o4, o5] ∧ M' = M ++ [.lst (st.map pr)] ∧ (∀ p ∈ st, Val p.1 ∧ Val p.2) ∧ ((∀ p ∈ st, p.1 = p.2) ↔ a = b) ∧ n = ssz st ∧ n ≤ 1000000) (sz b)
    ⟨[(a, b)], none, none, none, rfl, rfl, fun p hp => by simp at hp; subst hp; exact ⟨ha, hb⟩, by simp, by simp [ssz], hs⟩ ?_
  rintro n ρ M' ⟨st, o3, o4, o5, rfl, rfl, hv, hq, rfl, hn⟩ K hK
  unfold c_law_same_w1
  walk_at "dl_ev"
  rcases List.eq_nil_or_concat st with e | ⟨st, p, e⟩
  · subst e
    refine W.no ?_
    unfold c_law_same_s3
    walk_at "dl_ev"
    exact go _ true ⟨_, rfl⟩ (by simpa using hq)
  · rw [List.concat_eq_append] at e
    subst e
    have hne : (!((st ++ [p]).map pr).isEmpty) = true := by simp
    rw [hne]
    walk_at "dl_ev"
    obtain ⟨v1, v2⟩ := hv p (by simp)
    have hv' : ∀ q ∈ st, Val q.1 ∧ Val q.2 := fun q hq => hv q (by simp [hq])
    rw [ssz_app] at hn hK
    have hsz : ssz [p] = sz p.2 := by simp [ssz]
    have hlen := ssz_len st
    unfold c_law_same_b2
    have hM : (M ++ [Cell.lst ((st ++ [p]).map pr)])[M.length]? = some (.lst (st.map pr ++ [pr p])) := by rw [get_new]; simp
    walk_at "dl_ev"
    rw [set_new]
    unfold pr
    walk_at "dl_ev"
    rcases p with ⟨x, y⟩
    dsimp only at v1 v2 hsz ⊢
    have done1 : (x = y) → K [some a, some b, some (.ref M.length), some x, some y, o5] (M ++ [.lst (st.map pr)]) := fun e => by
      have := sz_pos y
      refine hK (ssz st) _ _ (by omega) ⟨st, _, _, o5, rfl, rfl, hv', ?_, rfl, by omega⟩
      rw [← hq]
      constructor
      · intro h q hq
        rcases List.mem_append.mp hq with z | z
        · exact h q z
        · have : q = (x, y) := by simpa using z
          subst this
          exact e
      · intro h q hq
        exact h q (by simp [hq])
    have done0 : (x ≠ y) → P (.bl false) (M ++ [.lst (st.map pr)]) := fun e => by
      refine go _ false ⟨_, rfl⟩ ?_
      rw [← hq]
      constructor
      · intro h; cases h
      · intro h
        exact absurd (h (x, y) (by simp)) e
    cases v2 with
    | int j =>
      walk_at "dl_ev"
      cases v1 with
      | int i =>
        walk_at "dl_ev"
        refine W.dec_not (fun h => ?_) (fun h => ?_)
        · walk_at "dl_ev"
          exact done0 (fun e => h (by cases e; rfl))
        · walk_at "dl_ev"
          exact done1 (by rw [h])
      | tup xs hxs =>
        walk_at "dl_ev"
        exact done0 (fun e => by cases e)
    | tup ys hys =>
      cases v1 with
      | int i =>
        walk_at "dl_ev"
        exact done0 (fun e => by cases e)
      | tup xs hxs =>
        walk_at "dl_ev"
        unfold c_law_same_s2
        walk_at "dl_ev"
        refine W.dec_not (fun h => ?_) (fun h => ?_)
        · walk_at "dl_ev"
          exact done0 (fun e => h (by cases e; rfl))
        · have hlx : xs.length = ys.length := by omega
          walk_at "dl_ev"
          unfold c_law_same_s1
          walk_at "dl_ev"
          have hszy : sz (.tup ys) = szs ys + 1 := rfl
          have hzl := ssz_len (xs.zip ys)
          have hzz := ssz_zip xs ys hlx
          refine floop_inv (fun zs ρ M' => ∃ (dn rs : List (D × D)) (o5 : Option D), ρ = [some a, some b, some (.ref M.length), some (.tup xs), some (.tup ys), o5] ∧ dn ++ rs = xs.zip ys ∧ zs = rs.map pr ∧ M' = M ++ [.lst ((st ++ dn).map pr)]) ?_ ?_ _ _ _ ⟨[], xs.zip ys, o5, rfl, rfl, rfl, by rw [List.append_nil]; rfl⟩
          · rintro z zs ρ M' ⟨dn, rs, o5, rfl, e1, e2, rfl⟩
            cases rs with
            | nil => cases e2
            | cons q rs =>
              obtain ⟨e3, e4⟩ := List.cons.inj e2
              subst e3 e4
              refine ⟨⟨True.intro, True.intro⟩, fun K2 hK2 => ?_⟩
              have hdl : dn.length ≤ (xs.zip ys).length := by rw [← e1]; simp
              unfold c_law_same_b1
              have hM2 : (M ++ [Cell.lst ((st ++ dn).map pr)])[M.length]? = some (.lst ((st ++ dn).map pr)) := get_new
              have hsl : ((st ++ dn).map pr).length < sizeLine := by rw [List.length_map, List.length_append]; omega
              walk_at "dl_ev"
              rw [set_new]
              exact hK2 _ _ ⟨dn ++ [q], rs, _, rfl, by rw [List.append_assoc]; exact e1, rfl, by simp⟩
          · rintro ρ M' ⟨dn, rs, o5, rfl, e1, e2, rfl⟩
            have : rs = [] := by cases rs with
              | nil => rfl
              | cons q rs => cases e2
            subst this
            rw [List.append_nil] at e1
            subst e1
            refine ⟨⟨True.intro, True.intro⟩, ?_⟩
            refine hK (ssz (st ++ xs.zip ys)) _ _ (by rw [ssz_app]; omega) ⟨st ++ xs.zip ys, _, _, o5, rfl, rfl, fun q hq => ?_, ?_, rfl, by rw [ssz_app]; omega⟩
            · rcases List.mem_append.mp hq with z | z
              · exact hv' q z
              · exact ⟨hxs _ (List.of_mem_zip z).1, hys _ (List.of_mem_zip z).2⟩
            · rw [← hq]
              have hze := zip_eq hlx
              constructor
              · intro h q hq
                rcases List.mem_append.mp hq with z | z
                · exact h q (by simp [z])
                · have : q = (D.tup xs, D.tup ys) := by simpa using z
                  subst this
                  have : xs = ys := hze.mp fun p hp => h p (by simp [hp])
                  rw [this]
              · intro h q hq
                rcases List.mem_append.mp hq with z | z
                · exact h q (by simp [z])
                · have e : D.tup xs = D.tup ys := h (D.tup xs, D.tup ys) (by simp)
                  exact hze.mpr (D.tup.inj e) q z

/-! ### _law_chances: drawn fractions of one whole -/
/-- the parts are of a whole; what a law's chances are -/
structure Ch (many : Nat) (cs : List (Int × Int)) (common : Int) : Prop where
  len : cs.length = many
  den : Den cs
  top : ∀ p ∈ cs, p.1 ≤ 10000
  pos : 0 < common
  small : common ≤ 10000
  bot : bot 1 cs = common
  dvd : ∀ p ∈ cs, p.2 ∣ common
  sum : (cs.map fun p => p.1 * (common / p.2)).sum = common
theorem bot_mul : ∀ {cs : List (Int × Int)} {f : Int}, 0 < f → Den cs → f ∣ DL.Law.bot f cs ∧ (∀ p ∈ cs, p.2 ∣ DL.Law.bot f cs) ∧ ∀ w, f ∣ w → (∀ p ∈ cs, p.2 ∣ w) → DL.Law.bot f cs ∣ w := by
  intro cs
  induction cs with
  | nil => intro f hf _; exact ⟨Int.dvd_refl f, fun p hp => (by cases hp), fun w h _ => h⟩
  | cons p cs ih =>
    intro f hf hd
    obtain ⟨h1, h2, h3⟩ := hd p List.mem_cons_self
    have hd' : Den cs := fun q hq => hd q (List.mem_cons_of_mem _ hq)
    have g1 := gI_pos (a := f) h2
    obtain ⟨c, hc⟩ := gI_dvd_r (a := f) (b := p.2) (by omega)
    obtain ⟨e, he⟩ := gI_dvd_l (a := f) (b := p.2) (by omega)
    have hstep : f * p.2 / gI f p.2 = f * c := mul_div_g g1 hc
    have hc0 : 0 < c := by
      rcases Int.lt_trichotomy c 0 with z | z | z
      · have := Int.mul_neg_of_pos_of_neg g1 z; omega
      · subst z; simp at hc; omega
      · exact z
    have hf' : 0 < f * c := Int.mul_pos hf hc0
    obtain ⟨i1, i2, i3⟩ := ih hf' hd'
    have eb : DL.Law.bot f (p :: cs) = DL.Law.bot (f * c) cs := by show DL.Law.bot (f * p.2 / gI f p.2) cs = _; rw [hstep]
    rw [eb]
    have pd : p.2 ∣ f * c := ⟨e, by
      have : f * c = gI f p.2 * e * c := by rw [← he]
      rw [this, show p.2 * e = gI f p.2 * c * e by rw [← hc], Int.mul_assoc, Int.mul_assoc, Int.mul_comm e c]⟩
    refine ⟨Int.dvd_trans ⟨c, rfl⟩ i1, fun q hq => ?_, fun w hw hall => i3 w ?_ fun q hq => hall q (List.mem_cons_of_mem _ hq)⟩
    · rcases List.mem_cons.mp hq with z | z
      · subst z; exact Int.dvd_trans pd i1
      · exact i2 q z
    · have hp := hall p List.mem_cons_self
      -- f c is the least common multiple of f and p.2
      have hl : f * c = ((Nat.lcm f.toNat p.2.toNat : Nat) : Int) := by
        have hn : f.toNat * p.2.toNat = Nat.gcd f.toNat p.2.toNat * Nat.lcm f.toNat p.2.toNat := (Nat.gcd_mul_lcm _ _).symm
        have hz : f * p.2 = gI f p.2 * ((Nat.lcm f.toNat p.2.toNat : Nat) : Int) := by
          have := congrArg (fun z : Nat => (z : Int)) hn
          simp only [Int.natCast_mul, Int.toNat_of_nonneg (Int.le_of_lt hf), Int.toNat_of_nonneg (Int.le_of_lt h2)] at this
          exact this
        have hz2 : gI f p.2 * (f * c) = gI f p.2 * ((Nat.lcm f.toNat p.2.toNat : Nat) : Int) := by
          rw [← hz]
          conv => rhs; rw [hc]
          rw [Int.mul_left_comm]
        exact Int.eq_of_mul_eq_mul_left (by omega) hz2
      rw [hl]
      have e1 : ((f.toNat : Nat) : Int) = f := Int.toNat_of_nonneg (Int.le_of_lt hf)
      have e2 : ((p.2.toNat : Nat) : Int) = p.2 := Int.toNat_of_nonneg (Int.le_of_lt h2)
      have w1 : f.toNat ∣ w.natAbs := by
        have : ((f.toNat : Nat) : Int) ∣ w := by rw [e1]; exact hw
        exact Int.ofNat_dvd_left.mp this
      have w2 : p.2.toNat ∣ w.natAbs := by
        have : ((p.2.toNat : Nat) : Int) ∣ w := by rw [e2]; exact hp
        exact Int.ofNat_dvd_left.mp this
      exact Int.ofNat_dvd_left.mpr (Nat.lcm_dvd w1 w2)
/-- parts of one whole, reduced -/
def red (whole : Int) (t : Int) : Int × Int := (t / gI t whole, whole / gI t whole)
theorem red_den {w t : Int} (ht : 0 ≤ t) (hw : 0 < w) : 0 ≤ (red w t).1 ∧ 0 < (red w t).2 ∧ (red w t).2 ∣ w ∧ (red w t).1 * w = t * (red w t).2 ∧ (red w t).1 ≤ t := by
  have g1 := gI_pos (a := t) hw
  obtain ⟨c, hc⟩ := gI_dvd_r (a := t) (b := w) (by omega)
  obtain ⟨e, he⟩ := gI_dvd_l (a := t) (b := w) ht
  unfold red
  dsimp only
  have h2 : w / gI t w = c := by
    have := mul_div_g (f := 1) g1 hc
    simpa using this
  have h1 : t / gI t w = e := by
    have := mul_div_g (f := 1) g1 he
    simpa using this
  rw [h1, h2]
  have hc0 : 0 < c := by
    rcases Int.lt_trichotomy c 0 with z | z | z
    · have := Int.mul_neg_of_pos_of_neg g1 z; omega
    · subst z; simp at hc; omega
    · exact z
  have he0 : 0 ≤ e := by
    rcases Int.lt_or_le e 0 with z | z
    · have := Int.mul_neg_of_pos_of_neg g1 z; omega
    · exact z
  refine ⟨he0, hc0, ⟨gI t w, by rw [Int.mul_comm]; exact hc⟩, ?_, ?_⟩
  · conv => lhs; rw [hc]
    conv => rhs; rw [he]
    rw [Int.mul_left_comm, Int.mul_assoc]
  · have : 1 * e ≤ gI t w * e := Int.mul_le_mul_of_nonneg_right (by omega) he0
    rw [← he] at this
    omega
theorem ch_of {w : Int} {ts : List Int} (hw : 0 < w) (hw2 : w ≤ 10000) (ht : ∀ t ∈ ts, 0 ≤ t) (hs : ts.sum = w) : Ch ts.length (ts.map (red w)) (DL.Law.bot 1 (ts.map (red w))) := by
  have htw : ∀ t ∈ ts, t ≤ w := fun t h => by
    have : ∀ (l : List Int), (∀ t ∈ l, 0 ≤ t) → ∀ t ∈ l, t ≤ l.sum := by
      intro l
      induction l with
      | nil => intro _ t h; cases h
      | cons a l ih =>
        intro hl t h
        have h0 : 0 ≤ l.sum := by
          clear ih h
          induction l with
          | nil => simp
          | cons b l ih2 =>
            have := ih2 fun t ht => hl t (by rcases List.mem_cons.mp ht with z | z <;> simp [z])
            have := hl b (by simp)
            simp; omega
        have ha := hl a List.mem_cons_self
        rw [List.sum_cons]
        rcases List.mem_cons.mp h with z | z
        · subst z; omega
        · have := ih (fun t ht => hl t (List.mem_cons_of_mem _ ht)) t z
          omega
    rw [← hs]
    exact this ts ht t h
  have hd : Den (ts.map (red w)) := fun p hp => by
    obtain ⟨t, h, rfl⟩ := List.mem_map.mp hp
    obtain ⟨a, b, c, _, _⟩ := red_den (ht t h) hw
    exact ⟨a, b, by have := Int.le_of_dvd hw c; omega⟩
  obtain ⟨_, b2, b3⟩ := bot_mul (f := 1) (by decide) hd
  have hdw : DL.Law.bot 1 (ts.map (red w)) ∣ w := b3 w (Int.one_dvd w) fun p hp => by
    obtain ⟨t, h, rfl⟩ := List.mem_map.mp hp
    exact (red_den (ht t h) hw).2.2.1
  have hbp := bot_pos (cs := ts.map (red w)) (f := 1) (by decide) hd
  refine ⟨by simp, hd, fun p hp => ?_, hbp, by have := Int.le_of_dvd hw hdw; omega, rfl, b2, ?_⟩
  · obtain ⟨t, h, rfl⟩ := List.mem_map.mp hp
    have := (red_den (ht t h) hw).2.2.2.2
    have := htw t h
    omega
  · generalize hB : DL.Law.bot 1 (ts.map (red w)) = B at *
    have key : ∀ t ∈ ts, ((red w t).1 * (B / (red w t).2)) * w = t * B := fun t h => by
      obtain ⟨r1, r2, r3, r4, _⟩ := red_den (ht t h) hw
      obtain ⟨q, hq⟩ := b2 (red w t) (List.mem_map_of_mem h)
      have e : B / (red w t).2 = q := by
        have := mul_div_g (f := 1) r2 hq
        simpa using this
      rw [e, hq, Int.mul_right_comm, r4, Int.mul_assoc]
    have all : ∀ (l : List Int), (∀ t ∈ l, t ∈ ts) → ((l.map (red w)).map fun p => p.1 * (B / p.2)).sum * w = l.sum * B := by
      intro l
      induction l with
      | nil => intro _; simp
      | cons a l ih =>
        intro h
        simp only [List.map_cons, List.sum_cons, Int.add_mul]
        rw [ih fun t ht => h t (List.mem_cons_of_mem _ ht), key a (h a List.mem_cons_self)]
    have := all ts fun t h => h
    rw [hs, Int.mul_comm w B] at this
    exact Int.eq_of_mul_eq_mul_right (by omega) this
theorem rngI_cons (lo : Int) (n : Nat) : rngI lo (n + 1) = .int lo :: rngI (lo + 1) n := by
  unfold rngI
  rw [List.range_succ_eq_map, List.map_cons, List.map_map]
  refine congr (congrArg _ ?_) ?_
  · simp
  · refine List.map_congr_left fun i _ => ?_
    show D.int (lo + ((i + 1 : Nat) : Int)) = D.int (lo + 1 + (i : Int))
    congr 1
    omega
theorem rngI_zero (lo : Int) : rngI lo 0 = [] := rfl
theorem sum_snoc (ts : List Int) (t : Int) : (ts ++ [t]).sum = ts.sum + t := by simp
theorem div_mul_g {f b g : Int} (hg : 0 < g) (h1 : g ∣ f) : f / g * b = f * b / g := by
  obtain ⟨e, he⟩ := h1
  subst he
  rw [Int.mul_ediv_cancel_left _ (by omega), Int.mul_assoc, Int.mul_ediv_cancel_left _ (by omega)]
theorem sum_nn : ∀ {l : List Int}, (∀ t ∈ l, 0 ≤ t) → 0 ≤ l.sum
  | [], _ => by simp
  | a :: l, h => by
    have h1 := sum_nn fun t ht => h t (List.mem_cons_of_mem _ ht)
    have h2 := h a List.mem_cons_self
    rw [List.sum_cons]
    omega

theorem s_chances {k n : Nat} {ex : XP} {M : Mem} {m : Nat} {P : Po} (hp : Pool M n) (h1 : 1 ≤ m) (h6 : m ≤ 6) (go : ∀ q cs c M', Kp n M M' → Pool M' n → M.length ≤ q → M'[q]? = some (.lst (cs.map fr)) → Ch m cs c → P (.tup [.ref q, .int c]) M') : sem T (k + 3) 11 ex [.ref n, .int (m : Nat)] M P := by
  have hln := hp.lt
  have szl : sizeLine = 16777216 := by decide
  refine u11 ?_
  unfold c_law_chances
  walk_at "dl_ev"
  refine s_take hp (by omega) (log_small (by omega) (by omega)) fun r1 M1 a1 b1 kp1 hp1 => ?_
  walk_at "dl_ev"
  refine s_take hp1 (by omega) (log_small (by omega) (by omega)) fun r2 M2 a2 b2 kp2 hp2 => ?_
  walk_at "dl_ev"
  refine s_take hp2 (by omega) (log_small (by omega) (by omega)) fun r3 M3 a3 b3 kp3 hp3 => ?_
  walk_at "dl_ev"
  refine s_take hp3 (by omega) (log_small (by omega) (by omega)) fun r4 M4 a4 b4 kp4 hp4 => ?_
  have hm5 : 1 ≤ (m : Int) * (1 + r2) ∧ (m : Int) * (1 + r2) ≤ 30 := by
    have e1 : (m : Int) * 1 ≤ m * (1 + r2) := Int.mul_le_mul_of_nonneg_left (by omega) (by omega)
    have e2 : (m : Int) * (1 + r2) ≤ 6 * (1 + r2) := Int.mul_le_mul_of_nonneg_right (by omega) (by omega)
    omega
  have pick : ∃ v, atI [D.int (m : Nat), D.int ((m : Nat) + r1), D.int ((m : Nat) * (1 + r2)), D.int 60, D.int 97, D.int (10000 - r3)] r4 = some (.int v) ∧ 1 ≤ v ∧ v ≤ 10000 := by
    have : r4 = 0 ∨ r4 = 1 ∨ r4 = 2 ∨ r4 = 3 ∨ r4 = 4 ∨ r4 = 5 := by omega
    rcases this with e | e | e | e | e | e <;> subst e
    · exact ⟨_, W.at0, by omega, by omega⟩
    · exact ⟨_, W.at1, by omega, by omega⟩
    · exact ⟨_, W.at2, hm5.1, by omega⟩
    · exact ⟨_, W.at3, by omega, by omega⟩
    · exact ⟨_, W.at4, by omega, by omega⟩
    · exact ⟨_, W.at5, by omega, by omega⟩
  obtain ⟨v, hv, v1, v2⟩ := pick
  refine W.ixT hv ?_
  walk_at "dl_ev"
  obtain ⟨w, hw, w1, w2⟩ : ∃ w : Int, (if ((m : Nat) : Int) > v then ((m : Nat) : Int) else v) = w ∧ (m : Int) ≤ w ∧ w ≤ 10000 := by
    by_cases h : ((m : Nat) : Int) > v
    · exact ⟨m, by rw [if_pos h], by omega, by omega⟩
    · exact ⟨v, by rw [if_neg h], by omega, by omega⟩
  rw [hw]
  have kp04 := ((kp1.trans kp2).trans kp3).trans kp4
  have hl4 : M.length ≤ M4.length := kp04.len
  walk_at "dl_ev"
  refine ⟨⟨by omega, by omega⟩, ?_⟩
  refine floop_inv (fun js ρ M' => ∃ (ts : List Int) (left : Int) (o6 o7 o8 : Option D), ρ = [some (.ref n), some (.int (m : Nat)), some (.int w), some (.int left), some (.ref M4.length), some (.int 1), o6, o7, o8, none] ∧ js = rngI ts.length (m - ts.length) ∧ ts.length ≤ m ∧ M'[M4.length]? = some (.lst ((ts.map (red w)).map fr)) ∧ ts.sum + left = w ∧ (∀ t ∈ ts, 0 ≤ t) ∧ ((m : Int) - ts.length ≤ left) ∧ (ts.length = m → left = 0) ∧ Pool M' n ∧ Kp n M M') ?_ ?_ _ _ _
    ⟨[], w, none, none, none, rfl, by simp, Nat.zero_le _, get_new, by simp, (fun t h => (by cases h)), (by simp; omega), (fun h => (by simp at h; omega)), hp4.keep (List.getElem?_append_left (by omega)), kp04.trans Kp.app⟩
  · rintro x js ρ M' ⟨ts, left, o6, o7, o8, rfl, e, hl, hM, hs, ht, hge, _, hpl, kp⟩
    obtain ⟨j, hj⟩ : ∃ j, m - ts.length = j + 1 := by
      cases hz : m - ts.length with
      | zero => rw [hz, rngI_zero] at e; cases e
      | succ j => exact ⟨j, rfl⟩
    rw [hj, rngI_cons] at e
    obtain ⟨e1, e2⟩ := List.cons.inj e
    subst e1 e2
    refine ⟨True.intro, fun K hK => ?_⟩
    unfold c_law_chances_b1
    walk_at "dl_ev"
    -- the part
    have fin : ∀ (part : Int) (M2 : Mem) (o : Option D), 0 ≤ part → part ≤ w → ((m : Int) - (ts.length + 1) ≤ left - part) → (ts.length + 1 = m → left - part = 0) → Pool M2 n → Kp n M' M2 →
        c_law_chances_s1 ⟨sem T (k + 2), fun _ => ex⟩ { nx := K, rt := P, ct := K, bk := fun ρ' M' => c_law_chances_s3 ⟨sem T (k + 2), fun _ => ex⟩ ⟨fun _ M' => P .non M', P, fun _ _ => False, fun _ _ => False⟩ ρ' M' }
          [some (.ref n), some (.int (m : Nat)), some (.int w), some (.int left), some (.ref M4.length), some (.int 1), some (.int (ts.length : Nat)), some (.int ((m : Nat) - 1 - (ts.length : Nat))), some (.int part), none] M2 := by
      intro part M2 o p1 p2 p3 p4 hpl2 kp2'
      have hM2 : M2[M4.length]? = some (.lst ((ts.map (red w)).map fr)) := kp2'.get hM (by omega)
      have hsl : ((ts.map (red w)).map fr).length < sizeLine := by simp; omega
      unfold c_law_chances_s1
      walk_at "dl_ev"
      refine s_fraction p1 (by omega) (by omega) ?_
      walk_at "dl_ev"
      refine hK _ _ ⟨ts ++ [part], left - part, _, _, _, rfl, ?_, by simp; omega, ?_, ?_, ?_, by simp; omega, fun h => p4 (by simp at h; omega), ?_, ?_⟩
      · rw [List.length_append, List.length_singleton, show m - (ts.length + 1) = j by omega]
        congr 1
      · rw [get_set_self hM2]
        simp [red]
      · rw [sum_snoc]; omega
      · intro t h
        rcases List.mem_append.mp h with z | z
        · exact ht t z
        · have : t = part := by simpa using z
          omega
      · exact hpl2.keep (get_set_ne (by omega))
      · exact (kp.trans kp2').wr (by omega)
    have hsum0 := sum_nn ht
    refine W.dec (fun h => ?_) (fun h => ?_)
    · walk_at "dl_ev"
      exact fin left M' none (by omega) (by omega) (by omega) (fun _ => by omega) hpl Kp.refl
    · walk_at "dl_ev"
      refine s_take hpl (by omega) (log_small (by omega) (by omega)) fun r5 M5 a5 b5 kp5 hp5 => ?_
      have pick : ∃ v, atI [D.int (left - ((m : Nat) - 1 - (ts.length : Nat))), D.int (if left - ((m : Nat) - 1 - (ts.length : Nat)) < 2 then left - ((m : Nat) - 1 - (ts.length : Nat)) else 2), D.int 1] r5 = some (.int v) ∧ 1 ≤ v ∧ v ≤ left - ((m : Nat) - 1 - (ts.length : Nat)) := by
        have : r5 = 0 ∨ r5 = 1 ∨ r5 = 2 := by omega
        rcases this with e | e | e <;> subst e
        · exact ⟨_, W.at0, by omega, by omega⟩
        · refine ⟨_, W.at1, ?_, ?_⟩ <;> split <;> omega
        · exact ⟨_, W.at2, by omega, by omega⟩
      obtain ⟨v, hv, v1, v2⟩ := pick
      refine W.ixT hv ?_
      walk_at "dl_ev"
      refine s_take hp5 v1 (log_small (by omega) (by omega)) fun r6 M6 a6 b6 kp6 hp6 => ?_
      walk_at "dl_ev"
      exact fin (1 + r6) M6 none (by omega) (by omega) (by omega) (fun _ => by omega) hp6 (kp5.trans kp6)
  · rintro ρ M' ⟨ts, left, o6, o7, o8, rfl, e, hl, hM, hs, ht, hge, h0, hpl, kp⟩
    refine ⟨True.intro, ?_⟩
    have htl : ts.length = m := by
      rcases Nat.lt_or_ge ts.length m with z | z
      · obtain ⟨j, hj⟩ : ∃ j, m - ts.length = j + 1 := ⟨m - ts.length - 1, by omega⟩
        rw [hj, rngI_cons] at e
        cases e
      · omega
    have hl0 := h0 htl
    subst hl0
    rw [Int.add_zero] at hs
    have ch := ch_of (w := w) (ts := ts) (by omega) w2 ht hs
    rw [htl] at ch
    unfold c_law_chances_s3
    walk_at "dl_ev"
    refine floop_inv (fun xs ρ M2 => ∃ (f : Int) (o : Option D) (ds : List (Int × Int)), ρ = [some (.ref n), some (.int (m : Nat)), some (.int w), some (.int 0), some (.ref M4.length), some (.int f), o6, o7, o8, o] ∧ xs = ds.map fr ∧ 0 < f ∧ Den ds ∧ bot f ds = bot 1 (ts.map (red w)) ∧ M2 = M') ?_ ?_ _ _ _ ⟨1, none, ts.map (red w), rfl, rfl, by decide, ch.den, rfl, rfl⟩
    · rintro x xs ρ M2 ⟨f, o, ds, rfl, e, hf, hd, hb, rfl⟩
      cases ds with
      | nil => cases e
      | cons p ds =>
        obtain ⟨e1, e2⟩ := List.cons.inj e
        subst e1 e2
        refine ⟨hM, fun K hK => ?_⟩
        obtain ⟨h1', h2, h3⟩ := hd p List.mem_cons_self
        unfold c_law_chances_b2 fr
        walk_at "dl_ev"
        refine s_gcd (by omega) (by omega) ?_
        have g1 := gI_pos (a := f) h2
        have g2 := gI_le (a := f) h2
        have hlg := log_small (x := gI f p.2) (by omega) (by omega)
        show opDiv (.int f) (.int (gI f p.2)) _ _
        walk_at "dl_ev"
        refine hK _ _ ⟨f / gI f p.2 * p.2, _, ds, rfl, rfl, ?_, fun q hq => hd q (List.mem_cons_of_mem _ hq), ?_, rfl⟩
        · rw [div_mul_g g1 (gI_dvd_l (by omega))]
          obtain ⟨c, hc⟩ := gI_dvd_r (a := f) (b := p.2) (by omega)
          rw [mul_div_g g1 hc]
          have hc0 : 0 < c := by
            rcases Int.lt_trichotomy c 0 with z | z | z
            · have := Int.mul_neg_of_pos_of_neg g1 z; omega
            · subst z; simp at hc; omega
            · exact z
          exact Int.mul_pos hf hc0
        · rw [div_mul_g g1 (gI_dvd_l (by omega))]
          exact hb
    · rintro ρ M2 ⟨f, o, ds, rfl, e, hf, hd, hb, rfl⟩
      cases ds with
      | cons p ds => cases e
      | nil =>
        refine ⟨hM, ?_⟩
        unfold c_law_chances_s2
        walk_at "dl_ev"
        have hb : f = _ := hb
        rw [hb]
        exact go _ _ _ _ kp hpl hl4 hM ch

theorem Kp.lt {n : Nat} {M M' : Mem} (k : Kp n M M') {m : Nat} (h : m < M.length) : m < M'.length := Nat.lt_of_lt_of_le h k.len
/-! ### _law_dealt -/
def blocks (c : Int) : Nat → List (Int × Int) → List Int
  | _, [] => []
  | i, p :: cs => List.replicate (p.1 * (c / p.2)).toNat (i : Int) ++ blocks c (i + 1) cs
theorem blocks_len (c : Int) : ∀ (cs : List (Int × Int)) (i : Nat), (∀ p ∈ cs, 0 ≤ p.1 * (c / p.2)) → ((blocks c i cs).length : Int) = (cs.map fun p => p.1 * (c / p.2)).sum
  | [], _, _ => rfl
  | p :: cs, i, h => by
    have h1 := blocks_len c cs (i + 1) fun q hq => h q (List.mem_cons_of_mem _ hq)
    have h2 := h p List.mem_cons_self
    simp only [blocks, List.length_append, List.length_replicate, List.map_cons, List.sum_cons]
    omega
theorem rep_one (z : Nat) (i : D) : (List.replicate z [i]).flatten = List.replicate z i := by
  induction z with
  | zero => rfl
  | succ z ih => rw [List.replicate_succ, List.flatten_cons, ih]; rfl
theorem s_dealt {k r : Nat} {ex : XP} {M : Mem} {cs : List (Int × Int)} {c : Int} {P : Po} (hr : M[r]? = some (.lst (cs.map fr))) (hd : Den cs) (ht : ∀ p ∈ cs, p.1 ≤ 10000) (hc : 0 < c) (hc2 : c ≤ 10000) (hs : (cs.map fun p => p.1 * (c / p.2)).sum = c) (hl : cs.length ≤ 100)
    (go : ∀ q M', Ap M M' → M.length ≤ q → M'[q]? = some (.lst ((blocks c 0 cs).map .int)) → P (.ref q) M') : sem T (k + 1) 13 ex [.ref r, .int c] M P := by
  have hrl := lt_of_get hr
  have szl : sizeLine = 16777216 := by decide
  have nn : ∀ p ∈ cs, 0 ≤ p.1 * (c / p.2) := fun p hp => by
    obtain ⟨a, b, _⟩ := hd p hp
    exact Int.mul_nonneg a (Int.ediv_nonneg (by omega) (by omega))
  have hbl := blocks_len c cs 0 nn
  rw [hs] at hbl
  refine u13 ?_
  unfold c_law_dealt
  walk_at "dl_ev"
  refine ⟨⟨by omega, by simp; omega⟩, ?_⟩
  refine floop_inv (fun js ρ M' => ∃ (dn rs : List (Int × Int)) (o : Option D) (zs : List Int), ρ = [some (.ref r), some (.int c), some (.ref M.length), o] ∧ dn ++ rs = cs ∧ js = rngI dn.length rs.length ∧ Ap M M' ∧ M'[M.length]? = some (.lst (zs.map .int)) ∧ zs ++ blocks c dn.length rs = blocks c 0 cs) ?_ ?_ _ _ _
    ⟨[], cs, none, [], rfl, rfl, by simp, ⟨_, rfl⟩, get_new, rfl⟩
  · rintro x js ρ M' ⟨dn, rs, o, zs, rfl, e1, e2, ap, hz, hb⟩
    cases rs with
    | nil => cases e2
    | cons p rs =>
      rw [List.length_cons, rngI_cons] at e2
      obtain ⟨e3, e4⟩ := List.cons.inj e2
      subst e3 e4
      refine ⟨True.intro, fun K hK => ?_⟩
      have hpm : p ∈ cs := by rw [← e1]; simp
      obtain ⟨p1, p2, p3⟩ := hd p hpm
      have p4 := ht p hpm
      have p5 := nn p hpm
      have hr' := ap.get hr
      have hlg := log_small (x := p.2) (by omega) (by omega)
      have hat : (cs.map fr)[dn.length]? = some (.tup [.int p.1, .int p.2]) := by rw [← e1]; simp [fr]
      have hsz : (zs ++ blocks c dn.length (p :: rs)).length = c.toNat := by
        rw [hb]; omega
      have hsz2 : zs.length + (p.1 * (c / p.2)).toNat ≤ 10000 := by
        simp only [blocks, List.length_append, List.length_replicate] at hsz
        omega
      unfold c_law_dealt_b1
      walk_at "dl_ev"
      refine W.rep get_new ⟨by omega, by omega, by simp; omega⟩ ?_
      rw [rep_one]
      walk_at "dl_ev"
      refine W.extend (get_app (get_app hz)) get_new (by simp; omega) ?_
      have hlt : M.length < M'.length := lt_of_get hz
      refine hK _ _ ⟨dn ++ [p], rs, _, zs ++ List.replicate (p.1 * (c / p.2)).toNat (dn.length : Int), rfl, by rw [List.append_assoc]; exact e1, by simp, ?_, ?_, ?_⟩
      · obtain ⟨N, rfl⟩ := ap
        rw [List.append_assoc, List.append_assoc, List.set_append_right _ _ (Nat.le_refl _)]
        exact ⟨_, rfl⟩
      · rw [get_set_self (get_app (get_app hz))]
        simp
      · rw [List.append_assoc, List.length_append]
        exact hb
  · rintro ρ M' ⟨dn, rs, o, zs, rfl, e1, e2, ap, hz, hb⟩
    cases rs with
    | cons p rs => rw [List.length_cons, rngI_cons] at e2; cases e2
    | nil =>
      refine ⟨True.intro, ?_⟩
      have hb : zs ++ [] = _ := hb
      rw [List.append_nil] at hb
      subst hb
      unfold c_law_dealt_s1
      walk_at "dl_ev"
      exact go _ M' ap (Nat.le_refl _) hz

theorem s_numbers {k n : Nat} {ex : XP} {M : Mem} {c : Int} {m : Nat} {P : Po} (hp : Pool M n) (hc : 0 < c) (hc2 : c ≤ 10000) (hm : m ≤ 1000) (go : ∀ (q : Nat) (js : List Int) (M' : Mem), Kp n M M' → Pool M' n → M.length ≤ q → M'[q]? = some (.lst (js.map .int)) → (∀ j ∈ js, (0 : Int) ≤ j) → js.length = m → P (.ref q) M') : sem T (k + 2) 14 ex [.ref n, .int c, .int (m : Nat)] M P := by
  have hln := hp.lt
  have szl : sizeLine = 16777216 := by decide
  have hlg := log_small (x := c) (by omega) (by omega)
  refine u14 ?_
  unfold c_law_numbers
  walk_at "dl_ev"
  refine ⟨⟨by omega, by omega⟩, ?_⟩
  refine floop_inv (fun js ρ M' => ∃ (o4 o5 : Option D) (zs : List Int), ρ = [some (.ref n), some (.int c), some (.int (m : Nat)), some (.ref M.length), o4, o5] ∧ js.length + zs.length = m ∧ M'[M.length]? = some (.lst (zs.map .int)) ∧ (∀ j ∈ zs, (0 : Int) ≤ j) ∧ Pool M' n ∧ Kp n M M') ?_ ?_ _ _ _
    ⟨none, none, [], rfl, by rw [rngI_length]; simp, get_new, (fun j h => (by cases h)), hp.keep (List.getElem?_append_left (by omega)), Kp.app⟩
  · rintro x js ρ M' ⟨o4, o5, zs, rfl, hl, hz, hnn, hpl, kp⟩
    refine ⟨True.intro, fun K hK => ?_⟩
    unfold c_law_numbers_b1
    have fin : ∀ (v : Int) (M2 : Mem) (o4 : Option D), 0 ≤ v → Pool M2 n → Kp n M' M2 → c_law_numbers_s1 ⟨sem T (k + 1), fun _ => ex⟩ { nx := K, rt := P, ct := K, bk := fun ρ' M' => c_law_numbers_s2 ⟨sem T (k + 1), fun _ => ex⟩ ⟨fun _ M' => P .non M', P, fun _ _ => False, fun _ _ => False⟩ ρ' M' }
        [some (.ref n), some (.int c), some (.int (m : Nat)), some (.ref M.length), o4, some (.int v)] M2 := by
      intro v M2 o4 hv hp2 kp2
      have hz2 : M2[M.length]? = some (.lst (zs.map .int)) := kp2.get hz (by omega)
      have hsl : (zs.map D.int).length < sizeLine := by simp at hl ⊢; omega
      unfold c_law_numbers_s1
      walk_at "dl_ev"
      refine hK _ _ ⟨_, _, zs ++ [v], rfl, by simp at hl ⊢; omega, ?_, ?_, hp2.keep (get_set_ne (by omega)), (kp.trans kp2).wr (Nat.le_refl _)⟩
      · rw [get_set_self hz2]; simp
      · intro j h
        rcases List.mem_append.mp h with z | z
        · exact hnn j z
        · have : j = v := by simpa using z
          omega
    walk_at "dl_ev"
    refine s_take hpl (by omega) hlg fun r1 M1 a1 b1 kp1 hp1 => ?_
    walk_at "dl_ev"
    refine s_take hp1 (by omega) (log_small (by omega) (by omega)) fun r2 M2 a2 b2 kp2 hp2 => ?_
    walk_at "dl_ev"
    refine s_take hp2 (by omega) hlg fun r3 M3 a3 b3 kp3 hp3 => ?_
    walk_at "dl_ev"
    refine s_take hp3 (by omega) (log_small (by omega) (by omega)) fun r4 M4 a4 b4 kp4 hp4 => ?_
    have hmul : 0 ≤ c * r2 := Int.mul_nonneg (by omega) a2
    have pick : ∃ v, atI [D.int r1, D.int 0, D.int (c - 1), D.int c, D.int (2 * c - 1), D.int (c * r2 + r3)] r4 = some (.int v) ∧ 0 ≤ v := by
      have : r4 = 0 ∨ r4 = 1 ∨ r4 = 2 ∨ r4 = 3 ∨ r4 = 4 ∨ r4 = 5 := by omega
      rcases this with e | e | e | e | e | e <;> subst e
      · exact ⟨_, W.at0, by omega⟩
      · exact ⟨_, W.at1, by omega⟩
      · exact ⟨_, W.at2, by omega⟩
      · exact ⟨_, W.at3, by omega⟩
      · exact ⟨_, W.at4, by omega⟩
      · exact ⟨_, W.at5, by omega⟩
    obtain ⟨v, hv, v1⟩ := pick
    refine W.ixT hv ?_
    have kp4' := ((kp1.trans kp2).trans kp3).trans kp4
    walk_at "dl_ev"
    refine s_take hp4 (by omega) (log_small (by omega) (by omega)) fun r5 M5 a5 b5 kp5 hp5 => ?_
    walk_at "dl_ev"
    refine W.dec (fun h => ?_) (fun h => ?_)
    · walk_at "dl_ev"
      refine W.pow ⟨by omega, by omega, by decide⟩ ?_
      walk_at "dl_ev"
      refine s_take hp5 (by omega) (log_small (by omega) (by omega)) fun r6 M6 a6 b6 kp6 hp6 => ?_
      walk_at "dl_ev"
      have e50 : (0 : Int) ≤ 10 ^ (50 : Int).toNat := Int.pow_nonneg (by decide)
      exact fin _ M6 _ (by have := Int.mul_nonneg (by omega : 0 ≤ c) (by omega : 0 ≤ 10 ^ (50 : Int).toNat + r6); omega) hp6 ((kp4'.trans kp5).trans kp6)
    · walk_at "dl_ev"
      exact fin v M5 _ v1 hp5 (kp4'.trans kp5)
  · rintro ρ M' ⟨o4, o5, zs, rfl, hl, hz, hnn, hpl, kp⟩
    refine ⟨True.intro, ?_⟩
    unfold c_law_numbers_s2
    walk_at "dl_ev"
    exact go _ zs M' kp hpl (Nat.le_refl _) hz hnn (by simpa using hl)

/-! ### _law_pool -/
theorem s_pool {k : Nat} {ex : XP} {M : Mem} {ns : List Int} {P : Po} (hs : ns.length ≤ 63) (go : ∀ q M', Pool M' q → P (.ref q) M') : sem T (k + 1) 5 ex [.rol (ns.map .int)] M P := by
  have szl : sizeLine = 16777216 := by decide
  refine u5 ?_
  unfold c_law_pool
  walk_at "dl_ev"
  have ecut : cutD (ns.map D.int) none (some 63) = ns.map D.int := by
    rw [show (some (63 : Int)) = some ((63 : Nat) : Int) from rfl, W.cut_to]
    exact List.take_of_length_le (by simpa using hs)
  rw [ecut]
  refine floop_inv (fun js ρ M' => ∃ (mx : Int) (o3 o4 : Option D) (gs zs : List Int), ρ = [some (.rol (ns.map .int)), some (.int mx), some (.ref M.length), o3, o4] ∧ js = zs.map .int ∧ gs.length + zs.length ≤ 63 ∧ 0 ≤ mx ∧ mx < 2147483647 ∧ (∀ g ∈ gs, (0 : Int) ≤ g) ∧ M'[M.length]? = some (.lst (gs.map .int)) ∧ M'[(M ++ [Cell.lst []]).length]? = some (.lst (ns.map .int))) ?_ ?_ _ _ _
    ⟨350023, none, none, [], ns, rfl, rfl, by simpa using hs, by decide, by decide, (fun g h => (by cases h)), get_app get_new, get_new⟩
  · rintro x js ρ M' ⟨mx, o3, o4, gs, zs, rfl, e, hl, hm0, hm1, hg, h1, h2⟩
    cases zs with
    | nil => cases e
    | cons z zs =>
      obtain ⟨e1, e2⟩ := List.cons.inj e
      subst e1 e2
      refine ⟨h2, fun K hK => ?_⟩
      unfold c_law_pool_b1
      walk_at "dl_ev"
      refine W.shl ⟨by decide, by decide, by decide⟩ ?_
      obtain ⟨B, hB, hB0⟩ : ∃ B : Int, B = 1 * 2 ^ Int.toNat 2000 ∧ 0 < B := ⟨_, rfl, by rw [Int.one_mul]; exact Int.pow_pos (by decide)⟩
      rw [← hB]
      refine W.mod hB0 ?_
      have hn0 := Int.emod_nonneg (if z < 0 then -z else z) (by omega : B ≠ 0)
      generalize (if z < 0 then -z else z) % B = nb at hn0
      clear hB hB0
      walk_at "dl_ev"
      refine W.pow ⟨by decide, by decide, by decide⟩ ?_
      have hm2 := Int.emod_nonneg (mx * 227 + nb % 1000397 + 1) (by omega : (2147483647 : Int) ≠ 0)
      have hm3 := Int.emod_lt_of_pos (mx * 227 + nb % 1000397 + 1) (by omega : (0 : Int) < 2147483647)
      walk_at "dl_ev"
      refine W.dec (fun h => ?_) (fun h => ?_)
      · have hsl : (gs.map D.int).length < sizeLine := by simp at hl ⊢; omega
        walk_at "dl_ev"
        refine hK _ _ ⟨_, _, _, gs ++ [nb], zs, rfl, rfl, by simp at hl ⊢; omega, hm2, hm3, fun g hgg => ?_, ?_, ?_⟩
        · rcases List.mem_append.mp hgg with q | q
          · exact hg g q
          · have : g = nb := by simpa using q
            omega
        · rw [get_set_self h1]; simp
        · rw [get_set_ne (by simp)]; exact h2
      · walk_at "dl_ev"
        exact hK _ _ ⟨_, _, _, gs, zs, rfl, rfl, by simp at hl ⊢; omega, hm2, hm3, hg, h1, h2⟩
  · rintro ρ M' ⟨mx, o3, o4, gs, zs, rfl, e, hl, hm0, hm1, hg, h1, h2⟩
    refine ⟨h2, ?_⟩
    unfold c_law_pool_s1
    have hsl : [D.int mx, D.int 0].length + (gs.map D.int).length ≤ sizeLine := by simp at hl ⊢; omega
    walk_at "dl_ev"
    exact go _ _ ⟨mx, 0, gs, by rw [get_new]; rfl, hm0, by decide, by omega, hg⟩

/-! ### lots -/
def it (l : List Int) : D := .tup (l.map .int)
theorem toPys_ints : ∀ l : List Int, toPys (l.map D.int) = l.map PyData.int
  | [] => rfl
  | a :: l => by
    show toPy (.int a) :: toPys (l.map D.int) = _
    rw [toPys_ints l]
    rfl
theorem pures_ints : ∀ l : List Int, pures? (l.map D.int) = true
  | [] => rfl
  | a :: l => by
    show (pure? (.int a) && pures? (l.map D.int)) = true
    rw [pures_ints l]
    rfl
theorem toPys_its : ∀ ls : List (List Int), toPys (ls.map it) = ls.map fun l => PyData.tuple (l.map .int)
  | [] => rfl
  | l :: ls => by
    show toPy (it l) :: toPys (ls.map it) = _
    rw [toPys_its ls]
    show PyData.tuple (toPys (l.map D.int)) :: _ = _
    rw [toPys_ints]
    rfl
theorem pures_its : ∀ ls : List (List Int), pures? (ls.map it) = true
  | [] => rfl
  | l :: ls => by
    show (pure? (it l) && pures? (ls.map it)) = true
    rw [pures_its ls]
    show (pures? (l.map D.int) && true) = true
    rw [pures_ints]
    rfl
theorem eqv_its (a b : List Int) : PyData.eqv (.tuple (a.map .int)) (.tuple (b.map .int)) = decide (a = b) := by
  show PyData.eqvAll (a.map .int) (b.map .int) = _
  exact PySem.W.ked_eqvAll a b
theorem lay_ints : ∀ l : List Int, PyData.canLayAll0 (l.map PyData.int) = true
  | [] => rfl
  | a :: l => by
    show (PyData.canLay0 (.int a) && PyData.canLayAll0 (l.map PyData.int)) = true
    rw [lay_ints l]
    rfl
theorem lay_its : ∀ ls : List (List Int), PyData.canLayAll0 (ls.map fun l => PyData.tuple (l.map .int)) = true
  | [] => rfl
  | l :: ls => by
    show (PyData.canLayAll0 (l.map PyData.int) && PyData.canLayAll0 (ls.map fun l => PyData.tuple (l.map .int))) = true
    rw [lay_its ls, lay_ints]
    rfl
theorem depth_its : ∀ ls : List (List Int), PyData.depthAll (ls.map fun l => PyData.tuple (l.map .int)) ≤ 3
  | [] => by simp [PyData.depthAll]
  | l :: ls => by
    have h1 := depth_its ls
    have h2 := depth_ints l
    simp only [List.map_cons, PyData.depthAll, PyData.depth]
    omega
theorem shaped_it (l : List Int) : SeqAt.shaped (toPy (it l)) = true := by
  show (PyData.canLay0 (.tuple (toPys (l.map D.int))) && decide (PyData.depth (.tuple (toPys (l.map D.int))) ≤ 64)) = true
  rw [toPys_ints]
  have h2 := depth_ints l
  have h3 : PyData.depth (.tuple (l.map PyData.int)) ≤ 64 := by simp only [PyData.depth]; omega
  rw [decide_eq_true h3, Bool.and_true]
  exact lay_ints l
theorem shaped_its (ls : List (List Int)) : SeqAt.shaped (.list (toPys (ls.map it))) = true := by
  rw [toPys_its]
  show (PyData.canLay0 (.list (ls.map fun l => PyData.tuple (l.map .int))) && decide _) = true
  have h2 := depth_its ls
  have h3 : PyData.depth (.list (ls.map fun l => PyData.tuple (l.map .int))) ≤ 64 := by simp only [PyData.depth]; omega
  rw [decide_eq_true h3, Bool.and_true]
  exact lay_its ls
theorem in_its {q : Nat} {l : List Int} {ls : List (List Int)} {M : Mem} {P : Po} (hM : M[q]? = some (.lst (ls.map it))) (h : P (.bl (decide (l ∈ ls))) M) : inD false (it l) (.ref q) M P := by
  unfold inD
  have hs : seqOf M (.ref q) = some (ls.map it) := by
    show (match M[q]? with | some (.lst xs) => some xs | _ => none) = _
    rw [hM]
  rw [hs]
  refine ⟨.inr ⟨?_, ?_, pures_its ls, shaped_it l, shaped_its ls⟩, ?_⟩
  · unfold isList
    simp only [hM]
  · show pures? (l.map D.int) = true
    exact pures_ints l
  · have e : ((toPys (ls.map it)).any fun z => PyData.eqv z (toPy (it l))) = decide (l ∈ ls) := by
      rw [toPys_its]
      have e2 : toPy (it l) = .tuple (l.map .int) := by
        show PyData.tuple (toPys (l.map D.int)) = _
        rw [toPys_ints]
      rw [e2, List.any_map, Bool.eq_iff_iff]
      simp only [List.any_eq_true, Function.comp, eqv_its, decide_eq_true_eq]
      exact ⟨fun ⟨x, h1, h2⟩ => by rw [← h2]; exact h1, fun h => ⟨l, h, rfl⟩⟩
    rw [if_neg (by decide), e]
    exact h
theorem flats_ints : ∀ l : List Int, (l.map D.int).all flat? = true
  | [] => rfl
  | a :: l => by
    rw [List.map_cons, List.all_cons, flats_ints l]
    rfl
theorem in_it {i : Int} {l : List Int} {M : Mem} {P : Po} (h : P (.bl (decide (i ∈ l))) M) : inD false (.int i) (it l) M P := by
  unfold inD it
  show ((flat? (.int i) = true ∧ (l.map D.int).all flat? = true) ∨ _) ∧ _
  refine ⟨.inl ⟨rfl, flats_ints l⟩, ?_⟩
  have e : ((toPys (l.map D.int)).any fun z => PyData.eqv z (toPy (.int i))) = decide (i ∈ l) := by
    rw [toPys_ints, List.any_map, Bool.eq_iff_iff]
    simp only [List.any_eq_true, Function.comp, decide_eq_true_eq]
    constructor
    · rintro ⟨x, h1, h2⟩
      have : x = i := by
        have h2 : (x == i) = true := h2
        simpa using h2
      rw [← this]; exact h1
    · intro h
      exact ⟨i, h, by show (i == i) = true; simp⟩
  rw [if_neg (by decide), e]
  exact h
theorem intsOf_map : ∀ l : List Int, intsOf (l.map D.int) = some l
  | [] => rfl
  | a :: l => by
    show (intsOf (l.map D.int)).map (a :: ·) = _
    rw [intsOf_map l]
    rfl
theorem max_it {l : List Int} {M : Mem} {P : Po} (hl : 0 < l.length) (h : P (.int (maxL l)) M) : fC cMax true [it l] M P := by
  unfold fC it
  show (true = true ∨ _) ∧ _
  refine ⟨.inl rfl, ?_⟩
  unfold cMax
  rw [intsOf_map]
  exact ⟨hl, h⟩
theorem filter_lt {α : Type} {p q : α → Bool} : ∀ {l : List α}, (∀ a ∈ l, p a = true → q a = true) → (∃ a ∈ l, q a = true ∧ p a = false) → (l.filter p).length < (l.filter q).length
  | [], _, ⟨a, h, _⟩ => by cases h
  | b :: l, hpq, ⟨a, ha, hq, hp⟩ => by
    have le : (l.filter p).length ≤ (l.filter q).length := by
      clear ha hq hp
      induction l with
      | nil => simp
      | cons c l ih =>
        have := ih fun a h => hpq a (by rcases List.mem_cons.mp h with z | z <;> simp [z])
        have hc := hpq c (by simp)
        by_cases h : p c = true
        · rw [List.filter_cons_of_pos h, List.filter_cons_of_pos (hc h)]
          simpa using this
        · rw [List.filter_cons_of_neg h]
          by_cases h2 : q c = true
          · rw [List.filter_cons_of_pos h2]; simp; omega
          · rw [List.filter_cons_of_neg h2]; exact this
    rcases List.mem_cons.mp ha with z | z
    · subst z
      rw [List.filter_cons_of_neg (by simp [hp]), List.filter_cons_of_pos hq]
      simp; omega
    · have ih := filter_lt (l := l) (fun a h => hpq a (List.mem_cons_of_mem _ h)) ⟨a, z, hq, hp⟩
      have hb := hpq b List.mem_cons_self
      by_cases h : p b = true
      · rw [List.filter_cons_of_pos h, List.filter_cons_of_pos (hb h)]
        simpa using ih
      · rw [List.filter_cons_of_neg h]
        by_cases h2 : q b = true
        · rw [List.filter_cons_of_pos h2]; simp; omega
        · rw [List.filter_cons_of_neg h2]; exact ih
def mx (l : List Int) : Int := maxL (l ++ [0])
def r20 : List Int := (List.range 20).map fun (k : Nat) => (0 : Int) + (k : Int)
theorem rng20 : rngI 0 20 = r20.map .int := by unfold rngI r20; rw [List.map_map]; rfl
theorem s_lots {k n : Nat} {ex : XP} {M : Mem} {m : Nat} {P : Po} (hp : Pool M n) (hm : m ≤ 10) (go : ∀ (q : Nat) (ls : List (List Int)) (M' : Mem), Kp n M M' → Pool M' n → M.length ≤ q → M'[q]? = some (.lst (ls.map it)) → ls.length = m → ls.Nodup → (∀ l ∈ ls, l.length ≤ 30) → P (.ref q) M') : sem T (k + 2) 12 ex [.ref n, .int (m : Nat)] M P := by
  have hln := hp.lt
  have szl : sizeLine = 16777216 := by decide
  refine u12 ?_
  unfold c_law_lots
  walk_at "dl_ev"
  refine ⟨⟨by omega, by omega⟩, ?_⟩
  refine floop_inv (fun js ρ M' => ∃ (o3 o4 : Option D) (ls : List (List Int)), ρ = [some (.ref n), some (.int (m : Nat)), some (.ref M.length), o3, o4, none] ∧ js.length + ls.length = m ∧ M'[M.length]? = some (.lst (ls.map it)) ∧ ls.Nodup ∧ (∀ l ∈ ls, l.length ≤ 30) ∧ Pool M' n ∧ Kp n M M') ?_ ?_ _ _ _
    ⟨none, none, [], rfl, by rw [rngI_length]; simp, get_new, List.nodup_nil, (fun l h => (by cases h)), hp.keep (List.getElem?_append_left (by omega)), Kp.app⟩
  · rintro x js ρ M' ⟨o3, o4, ls, rfl, hl, hz, hnd, hsm, hpl, kp⟩
    refine ⟨True.intro, fun K hK => ?_⟩
    unfold c_law_lots_b2
    walk_at "dl_ev"
    refine ⟨⟨by omega, by omega⟩, ?_⟩
    refine cloop_inv (fun xs acc M2 => ∃ zs : List Int, acc = zs.map .int ∧ (∃ zr : List Int, xs = zr.map .int ∧ zs.length + zr.length ≤ 5) ∧ Pool M2 n ∧ Kp n M' M2) ?_ ?_ _ _ _ ⟨[], rfl, ⟨[0, 1, 2, 3, 4], rfl, by simp⟩, hpl, Kp.refl⟩
    · rintro x xs acc M2 ⟨zs, rfl, ⟨zr, e, hzr⟩, hp2, kp2⟩
      cases zr with
      | nil => cases e
      | cons z zr =>
        obtain ⟨e1, e2⟩ := List.cons.inj e
        subst e1 e2
        refine ⟨True.intro, fun K2 hK2 => ?_⟩
        unfold c_law_lots_t1
        walk_at "dl_ev"
        refine s_take hp2 (by omega) (log_small (by omega) (by omega)) fun r1 M3 a1 b1 kp3 hp3 => ?_
        walk_at "dl_ev"
        refine W.dec (fun h => ?_) (fun h => ?_)
        · walk_at "dl_ev"
          exact hK2 _ _ ⟨zs ++ [z], by simp, ⟨zr, rfl, by simp at hzr ⊢; omega⟩, hp3, kp2.trans kp3⟩
        · exact hK2 _ _ ⟨zs, rfl, ⟨zr, rfl, by simp at hzr ⊢; omega⟩, hp3, kp2.trans kp3⟩
    · rintro acc M2 ⟨zs, rfl, ⟨zr, e, hzr⟩, hp2, kp2⟩
      refine ⟨True.intro, ?_⟩
      have hz2 : M2[M.length]? = some (.lst (ls.map it)) := kp2.get hz (by omega)
      walk_at "dl_ev"
      refine while_inv (fun c ρ M3 => ∃ (l : List Int), ρ = [some (.ref n), some (.int (m : Nat)), some (.ref M.length), some x, some (it l), none] ∧ l.length ≤ 30 ∧ c = (ls.filter fun a => decide (mx l ≤ mx a)).length ∧ M3 = M2) _ ⟨zs, rfl, by omega, rfl, rfl⟩ ?_
      rintro c ρ M3 ⟨l, rfl, hll, rfl, rfl⟩ K2 hK2
      unfold c_law_lots_w1
      walk_at "dl_ev"
      refine in_its hz2 ?_
      walk_at "dl_ev"
      refine W.dec (fun h => ?_) (fun h => ?_)
      · unfold c_law_lots_b1
        walk_at "dl_ev"
        refine ⟨⟨by decide, by decide⟩, ?_⟩
        rw [show Int.toNat 20 = 20 from rfl, rng20]
        refine cloop_pure (fun x => match x with | .int i => decide (i ∈ l) | _ => false) id True.intro _ _ ?_ ?_
        · intro y hy acc K3 hK3
          obtain ⟨i, _, rfl⟩ := List.mem_map.mp hy
          unfold c_law_lots_t2
          walk_at "dl_ev"
          refine in_it ?_
          walk_at "dl_ev"
          refine W.dec (fun h => ?_) (fun h => ?_)
          · walk_at "dl_ev"
            have := hK3
            dsimp only at this
            rw [if_pos (decide_eq_true h)] at this
            exact this
          · have := hK3
            dsimp only at this
            rw [if_neg (by simp [h])] at this
            exact this
        · have e1 : ((r20.map D.int).filter fun x => match x with | .int i => decide (i ∈ l) | _ => false).map id = (r20.filter fun i => decide (i ∈ l)).map D.int := by
            rw [List.map_id, List.filter_map]
            rfl
          rw [List.nil_append, e1]
          have hr20 : (r20.filter fun i => decide (i ∈ l)).length ≤ 20 := Nat.le_trans (List.length_filter_le _ _) (by decide)
          generalize hA : (r20.filter fun i => decide (i ∈ l)) = A at hr20
          walk_at "dl_ev"
          refine W.addT (by simp; omega) ?_
          have e2 : l.map D.int ++ [D.int 0] = (l ++ [0]).map D.int := by simp
          walk_at "dl_ev"
          rw [e2]
          refine max_it (l := l ++ [0]) (by simp) ?_
          walk_at "dl_ev"
          refine W.addT (by simp; omega) ?_
          have e3 : D.tup (A.map D.int ++ [D.int (maxL (l ++ [0]) + 1)]) = it (A ++ [mx l + 1]) := by unfold it mx; simp
          rw [e3]
          walk_at "dl_ev"
          have hmx : mx l < mx (A ++ [mx l + 1]) := by
            have := (maxL_mem (l := (A ++ [mx l + 1]) ++ [0]) (by simp)).2 (mx l + 1) (by simp)
            show mx l < maxL ((A ++ [mx l + 1]) ++ [0])
            omega
          refine hK2 _ _ _ ?_ ⟨A ++ [mx l + 1], rfl, by simp; omega, rfl, rfl⟩
          refine filter_lt (fun a _ ha => ?_) ⟨l, h, by simp, by simp; omega⟩
          simp only [decide_eq_true_eq] at ha ⊢
          omega
      · walk_at "dl_ev"
        unfold c_law_lots_s1
        have hsl : (ls.map it).length < sizeLine := by simp at hl ⊢; omega
        walk_at "dl_ev"
        refine hK _ _ ⟨_, _, ls ++ [l], rfl, by simp at hl ⊢; omega, by rw [get_set_self hz2]; simp, ?_, ?_, hp2.keep (get_set_ne (by omega)), (kp.trans kp2).wr (Nat.le_refl _)⟩
        · rw [List.nodup_append]
          exact ⟨hnd, by simp, fun a ha b hb => by
            have : b = l := by simpa using hb
            subst this
            exact fun e => h (e ▸ ha)⟩
        · intro a ha
          rcases List.mem_append.mp ha with q | q
          · exact hsm a q
          · have : a = l := by simpa using q
            subst this
            exact hll
  · rintro ρ M' ⟨o3, o4, ls, rfl, hl, hz, hnd, hsm, hpl, kp⟩
    refine ⟨True.intro, ?_⟩
    unfold c_law_lots_s2
    walk_at "dl_ev"
    exact go _ ls M' kp hpl (Nat.le_refl _) hz (by simpa using hl) hnd hsm

theorem pl_blocks {c : Int} : ∀ (cs : List (Int × Int)) (l : Int) (i : Nat), 0 ≤ l → l < (cs.map fun p => p.1 * (c / p.2)).sum → (∀ p ∈ cs, 0 ≤ p.1 * (c / p.2)) → ∃ j : Nat, pl c l i cs = some j ∧ (blocks c i cs)[l.toNat]? = some (j : Int) ∧ i ≤ j ∧ j < i + cs.length
  | [], l, i, h0, h1, _ => by simp at h1; omega
  | p :: cs, l, i, h0, h1, hn => by
    have hp := hn p List.mem_cons_self
    rw [List.map_cons, List.sum_cons] at h1
    by_cases h : l - p.1 * (c / p.2) < 0
    · refine ⟨i, by unfold pl; rw [if_pos h], ?_, Nat.le_refl _, by simp⟩
      unfold blocks
      rw [List.getElem?_append_left (by rw [List.length_replicate]; omega), List.getElem?_replicate, if_pos (by omega)]
    · obtain ⟨j, j1, j2, j3, j4⟩ := pl_blocks cs (l - p.1 * (c / p.2)) (i + 1) (by omega) (by omega) fun q hq => hn q (List.mem_cons_of_mem _ hq)
      refine ⟨j, by unfold pl; rw [if_neg h]; exact j1, ?_, by omega, by simp; omega⟩
      unfold blocks
      rw [List.getElem?_append_right (by rw [List.length_replicate]; omega), List.length_replicate, show l.toNat - (p.1 * (c / p.2)).toNat = (l - p.1 * (c / p.2)).toNat by omega]
      exact j2
theorem Ch.nn {m : Nat} {cs : List (Int × Int)} {c : Int} (h : Ch m cs c) : ∀ p ∈ cs, 0 ≤ p.1 * (c / p.2) := fun p hp => by
  obtain ⟨a, b, _⟩ := h.den p hp
  exact Int.mul_nonneg a (Int.ediv_nonneg (Int.le_of_lt h.pos) (by omega))
/-- the lot that the number j draws -/
def wl (c : Int) (cs : List (Int × Int)) (ls : List (List Int)) (j : Int) : List Int := ls.getD ((blocks c 0 cs).getD (j % c).toNat 0).toNat []
def lotD (ls : List (List Int)) (cs : List (Int × Int)) : List (D × (Int × Int)) := (ls.zip cs).map fun q => (it q.1, q.2)
theorem lotD_snd : ∀ {ls : List (List Int)} {cs : List (Int × Int)}, ls.length = cs.length → (lotD ls cs).map Prod.snd = cs
  | [], [], _ => rfl
  | l :: ls, p :: cs, h => by
    have := lotD_snd (ls := ls) (cs := cs) (by simpa using h)
    unfold lotD at *
    rw [List.zip_cons_cons, List.map_cons, List.map_cons, this]
  | [], _ :: _, h => by simp at h
  | _ :: _, [], h => by simp at h
theorem draw {m : Nat} {cs : List (Int × Int)} {c : Int} {ls : List (List Int)} (ch : Ch m cs c) (hl : ls.length = m) (j : Int) : ∃ (i : Nat) (q : D × (Int × Int)), pl (bot 1 cs) (j % bot 1 cs) 0 cs = some i ∧ (blocks c 0 cs)[(j % c).toNat]? = some (i : Int) ∧ i < m ∧ ls[i]? = some (wl c cs ls j) ∧ (lotD ls cs)[i]? = some q ∧ q.1 = it (wl c cs ls j) := by
  have h0 := Int.emod_nonneg j (by have := ch.pos; omega : c ≠ 0)
  have h1 := Int.emod_lt_of_pos j ch.pos
  obtain ⟨i, i1, i2, _, i4⟩ := pl_blocks (c := c) cs (j % c) 0 h0 (by rw [ch.sum]; exact h1) ch.nn
  have him : i < m := by have := ch.len; omega
  have hw : wl c cs ls j = ls[i]'(by omega) := by
    unfold wl
    rw [List.getD_eq_getElem?_getD (l := blocks c 0 cs), i2]
    simp [List.getD_eq_getElem?_getD, List.getElem?_eq_getElem (show i < ls.length by omega)]
  have hz : (ls.zip cs)[i]? = some (ls[i]'(by omega), cs[i]'(by have := ch.len; omega)) := by
    rw [List.getElem?_zip_eq_some]
    exact ⟨List.getElem?_eq_getElem _, List.getElem?_eq_getElem _⟩
  refine ⟨i, (it (ls[i]'(by omega)), cs[i]'(by have := ch.len; omega)), by rw [ch.bot]; exact i1, i2, him, by rw [hw]; exact List.getElem?_eq_getElem _, ?_, by rw [hw]⟩
  unfold lotD
  rw [List.getElem?_map, hz]
  rfl
theorem val_it (l : List Int) : Val (it l) := .tup _ fun x hx => by
  obtain ⟨i, _, rfl⟩ := List.mem_map.mp hx
  exact .int i
theorem szs_ints : ∀ l : List Int, szs (l.map D.int) = l.length
  | [] => rfl
  | a :: l => by
    show sz (.int a) + szs (l.map D.int) = _
    rw [szs_ints l]
    simp [sz]
    omega
theorem sz_it (l : List Int) : sz (it l) = l.length + 1 := by
  show szs (l.map D.int) + 1 = _
  rw [szs_ints]
theorem szs_le {ds : List D} {b : Nat} (h : ∀ d ∈ ds, sz d ≤ b) : szs ds ≤ ds.length * b := by
  induction ds with
  | nil => simp [szs]
  | cons d ds ih =>
    have h1 := h d List.mem_cons_self
    have h2 := ih fun x hx => h x (List.mem_cons_of_mem _ hx)
    show sz d + szs ds ≤ _
    rw [List.length_cons, Nat.succ_mul]
    omega
/-- thirty, parted -/
theorem ch30 {ts : List Int} (ht : ∀ t ∈ ts, 0 ≤ t) (hs : ts.sum = 30) (h5 : 5 ∈ ts) (h3 : 3 ∈ ts) (h2 : 2 ∈ ts) : Ch ts.length (ts.map (red 30)) 30 := by
  have ch := ch_of (w := 30) (ts := ts) (by decide) (by decide) ht hs
  have e : bot 1 (ts.map (red 30)) = 30 := by
    have hd := ch.dvd
    have a := hd (red 30 5) (List.mem_map_of_mem h5)
    have b := hd (red 30 3) (List.mem_map_of_mem h3)
    have c := hd (red 30 2) (List.mem_map_of_mem h2)
    have a' : (6 : Int) ∣ bot 1 (ts.map (red 30)) := a
    have b' : (10 : Int) ∣ bot 1 (ts.map (red 30)) := b
    have c' : (15 : Int) ∣ bot 1 (ts.map (red 30)) := c
    obtain ⟨_, _, b3⟩ := bot_mul (f := 1) (by decide) ch.den
    have d : bot 1 (ts.map (red 30)) ∣ 30 := b3 30 (Int.one_dvd 30) fun p hp => by
      obtain ⟨t, h, rfl⟩ := List.mem_map.mp hp
      exact (red_den (ht t h) (by decide)).2.2.1
    have hle := Int.le_of_dvd (by decide) d
    have hp := ch.pos
    omega
  rw [e] at ch
  exact ch
/-! padding with nothing -/
def pd : List Nat → List (Int × Int) → List (Int × Int)
  | g :: gs, p :: cs => List.replicate g (0, 1) ++ p :: pd gs cs
  | g :: _, [] => List.replicate g (0, 1)
  | [], _ => []
def th : Nat → List Nat → List (Int × Int) → List Nat
  | o, g :: gs, p :: cs => (o + g) :: th (o + g + 1) gs cs
  | _, _, _ => []
theorem pl_pad {c l : Int} {rest : List (Int × Int)} (h : 0 ≤ l) : ∀ (g o : Nat), pl c l o (List.replicate g (0, 1) ++ rest) = pl c l (o + g) rest
  | 0, o => rfl
  | g + 1, o => by
    rw [List.replicate_succ, List.cons_append]
    have e : l - (0 : Int) * (c / 1) = l := by simp
    show (if l - (0 : Int) * (c / 1) < 0 then _ else pl c (l - (0 : Int) * (c / 1)) (o + 1) (List.replicate g (0, 1) ++ rest)) = _
    rw [e, if_neg (by omega), pl_pad h g (o + 1), show o + 1 + g = o + (g + 1) by omega]
theorem pl_pd {c : Int} : ∀ (cs : List (Int × Int)) (gs : List Nat) (l : Int) (o i j : Nat), 0 ≤ l → gs.length = cs.length + 1 → pl c l i cs = some j → ∃ z, (th o gs cs)[j - i]? = some z ∧ pl c l o (pd gs cs) = some z ∧ i ≤ j
  | [], gs, l, o, i, j, _, _, h => by cases h
  | p :: cs, [], l, o, i, j, _, hg, _ => by simp at hg
  | p :: cs, g :: gs, l, o, i, j, h0, hg, h => by
    unfold pl at h
    unfold pd
    rw [pl_pad h0]
    by_cases hc : l - p.1 * (c / p.2) < 0
    · rw [if_pos hc] at h
      cases h
      refine ⟨o + g, by simp [th], by unfold pl; rw [if_pos hc], Nat.le_refl _⟩
    · rw [if_neg hc] at h
      obtain ⟨z, z1, z2, z3⟩ := pl_pd cs gs (l - p.1 * (c / p.2)) (o + g + 1) (i + 1) j (by omega) (by simpa using hg) h
      refine ⟨z, ?_, by unfold pl; rw [if_neg hc]; exact z2, by omega⟩
      show ((o + g) :: th (o + g + 1) gs cs)[j - i]? = some z
      rw [show j - i = (j - (i + 1)) + 1 by omega, List.getElem?_cons_succ]
      exact z1
theorem bot_pad {rest : List (Int × Int)} {f : Int} (h : 0 < f) : ∀ g : Nat, bot f (List.replicate g (0, 1) ++ rest) = bot f rest
  | 0 => rfl
  | g + 1 => by
    rw [List.replicate_succ, List.cons_append]
    show bot (f * 1 / gI f 1) (List.replicate g (0, 1) ++ rest) = _
    have e : f * 1 / gI f 1 = f := by
      unfold gI
      simp
    rw [e, bot_pad h g]
theorem bot_pd : ∀ (cs : List (Int × Int)) (gs : List Nat) (f : Int), 0 < f → Den cs → gs.length = cs.length + 1 → bot f (pd gs cs) = bot f cs
  | [], [], f, _, _, h => by simp at h
  | [], g :: gs, f, hf, _, _ => by
    unfold pd
    have := bot_pad (rest := []) hf g
    rw [List.append_nil] at this
    exact this
  | p :: cs, [], f, _, _, h => by simp at h
  | p :: cs, g :: gs, f, hf, hd, h => by
    unfold pd
    rw [bot_pad hf]
    show bot (f * p.2 / gI f p.2) (pd gs cs) = bot (f * p.2 / gI f p.2) cs
    refine bot_pd cs gs _ ?_ (fun q hq => hd q (List.mem_cons_of_mem _ hq)) (by simpa using h)
    have := bot_pos (cs := [p]) hf fun q hq => hd q (by simp at hq; subst hq; simp)
    exact this

theorem eq_ints {a b : Nat} {as bs : List Int} {M : Mem} {P : Po} (ha : M[a]? = some (.lst (as.map .int))) (hb : M[b]? = some (.lst (bs.map .int))) (h : P (.bl (decide (as = bs))) M) : opEq (.ref a) (.ref b) M P := by
  have py : ∀ {a : Nat} {as : List Int}, M[a]? = some (.lst (as.map .int)) → pyM M (.ref a) = some (.list (as.map .int)) := fun {a as} h => by
    show (match M[a]? with
      | some (.lst xs) => if pures? xs = true then some (PyData.list (toPys xs)) else none
      | _ => none) = _
    rw [h]
    show (if pures? (as.map D.int) = true then _ else _) = _
    rw [if_pos (pures_ints as), toPys_ints]
  have sh : ∀ as : List Int, SeqAt.shaped (.list (as.map .int)) = true := fun as => by
    have h2 := depth_ints as
    have h3 : PyData.depth (.list (as.map PyData.int)) ≤ 64 := by simp only [PyData.depth]; omega
    show (PyData.canLay0 (.list (as.map .int)) && decide _) = true
    rw [decide_eq_true h3, Bool.and_true]
    exact lay_ints as
  unfold opEq
  rw [py ha, py hb]
  refine ⟨⟨sh as, sh bs⟩, ?_⟩
  have e : PyData.eqv (.list (as.map .int)) (.list (bs.map .int)) = decide (as = bs) := PySem.W.ked_eqvAll as bs
  show P (.bl (PyData.eqv (.list (as.map .int)) (.list (bs.map .int)))) M
  rw [e]
  exact h
/-- what stands while a lottery is asked -/
structure Sit (n q ql qd : Nat) (cs : List (Int × Int)) (ls : List (List Int)) (c : Int) (M : Mem) : Prop where
  pool : Pool M n
  ch : M[q]? = some (.lst (cs.map fr))
  lo : M[ql]? = some (.lst (ls.map it))
  de : M[qd]? = some (.lst ((blocks c 0 cs).map .int))
  n1 : q ≠ n
  n2 : ql ≠ n
  n3 : qd ≠ n
theorem Sit.kp {n q ql qd : Nat} {cs : List (Int × Int)} {ls : List (List Int)} {c : Int} {M M' : Mem} (s : Sit n q ql qd cs ls c M) (k : Kp n M M') (p : Pool M' n) : Sit n q ql qd cs ls c M' := ⟨p, k.get s.ch s.n1, k.get s.lo s.n2, k.get s.de s.n3, s.n1, s.n2, s.n3⟩
theorem Sit.ap {n q ql qd : Nat} {cs : List (Int × Int)} {ls : List (List Int)} {c : Int} {M M' : Mem} (s : Sit n q ql qd cs ls c M) (a : Ap M M') : Sit n q ql qd cs ls c M' := s.kp a.kp (a.pool s.pool)
theorem Sit.new {n q ql qd : Nat} {cs : List (Int × Int)} {ls : List (List Int)} {c : Int} {M N : Mem} (s : Sit n q ql qd cs ls c M) : Sit n q ql qd cs ls c (M ++ N) := s.ap ⟨N, rfl⟩
def cnt (c : Int) (cs : List (Int × Int)) (ls : List (List Int)) (ys : List Int) (k : Nat) : Int := ((ys.filter fun y => decide (wl c cs ls y = ls.getD k [])).length : Nat)
theorem range_snoc {α : Type} (f : Nat → α) (i : Nat) : (List.range (i + 1)).map f = (List.range i).map f ++ [f i] := by
  rw [List.range_succ, List.map_append, List.map_singleton]
theorem count_len (bs : List Int) (k : Int) : (bs.filter fun b => decide (b = k)).length = bs.count k := by
  rw [List.count, List.countP_eq_length_filter]
  refine congrArg List.length (List.filter_congr fun b _ => ?_)
  by_cases h : b = k <;> simp [h]
theorem map_get (bs : List Int) : (List.range bs.length).map (fun j => bs.getD j 0) = bs := by
  apply List.ext_getElem
  · simp
  · intro i h1 h2
    simp [List.getD_eq_getElem?_getD, List.getElem?_eq_getElem h2]
theorem cnt_eq {m : Nat} {cs : List (Int × Int)} {c : Int} {ls : List (List Int)} {ys : List Int} (ch : Ch m cs c) (hl : ls.length = m) (hn : ls.Nodup) (hy : ys.Perm ((List.range c.toNat).map fun (j : Nat) => (j : Int))) {k : Nat} (hk : k < m) : cnt c cs ls ys k = ((blocks c 0 cs).count (k : Int) : Nat) := by
  have hb := blocks_len c cs 0 ch.nn
  rw [ch.sum] at hb
  have hbl : (blocks c 0 cs).length = c.toNat := by omega
  unfold cnt
  congr 1
  rw [(hy.filter _).length_eq, List.filter_map, List.length_map, ← count_len]
  conv => rhs; rw [← map_get (blocks c 0 cs), List.filter_map, List.length_map, hbl]
  congr 1
  refine List.filter_congr fun j hj => ?_
  have hjc : j < c.toNat := List.mem_range.mp hj
  obtain ⟨i, _, _, i2, i3, i4, _⟩ := draw ch hl (j : Int)
  have em : ((j : Int) % c).toNat = j := by rw [Int.emod_eq_of_lt (by omega) (by omega)]; rfl
  rw [em] at i2
  show decide (wl c cs ls (j : Int) = ls.getD k []) = decide ((blocks c 0 cs).getD j 0 = (k : Int))
  have e1 : (blocks c 0 cs).getD j 0 = (i : Int) := by rw [List.getD_eq_getElem?_getD, i2]; rfl
  have hki : k < ls.length := by omega
  have hii : i < ls.length := by omega
  have e2 : wl c cs ls (j : Int) = ls[i] := by
    rw [List.getElem?_eq_getElem hii] at i4
    exact (Option.some.inj i4).symm
  have e3 : ls.getD k [] = ls[k] := by simp [List.getD_eq_getElem?_getD, List.getElem?_eq_getElem hki]
  rw [e1, e2, e3]
  have key : (ls[i] = ls[k]) ↔ ((i : Int) = (k : Int)) := by
    constructor
    · intro h
      have pw := List.pairwise_iff_getElem.mp hn
      rcases Nat.lt_trichotomy i k with z | z | z
      · exact absurd h (pw i k hii hki z)
      · omega
      · exact absurd h.symm (pw k i hki hii z)
    · intro h
      have : i = k := by omega
      subst this
      rfl
  by_cases h : (i : Int) = (k : Int)
  · rw [decide_eq_true h, decide_eq_true (key.mpr h)]
  · rw [decide_eq_false h, decide_eq_false (fun z => h (key.mp z))]

theorem s_tail1 {k n q ql qd m : Nat} {ex : XP} {M : Mem} {cs : List (Int × Int)} {ls : List (List Int)} {c : Int} {ys : List Int} {P : Po} {o2 o3 o8 o9 o10 o11 o12 o13 o14 o15 o17 o18 : Option D} (sit : Sit n q ql qd cs ls c M) (ch : Ch m cs c) (hm : m ≤ 10) (hl : ls.length = m) (hn : ls.Nodup) (hs : ∀ l ∈ ls, l.length ≤ 30)
    (hy : ys.Perm ((List.range c.toNat).map fun (j : Nat) => (j : Int))) (go : ∀ M', Pool M' n → P (.bl true) M') :
    c_law_asked_s1 ⟨sem T (k + 1), fun _ => ex⟩ ⟨fun _ M' => P .non M', P, fun _ _ => False, fun _ _ => False⟩ [some (.ref n), some (.int (m : Nat)), o2, o3, some (.ref q), some (.int c), some (.ref ql), some (.ref qd), o8, o9, o10, o11, o12, o13, o14, o15, some (.tup (ys.map fun y => it (wl c cs ls y))), o17, o18] M := by
  have szl : sizeLine = 16777216 := by decide
  have hc := ch.small
  unfold c_law_asked_s1
  walk_at "dl_ev"
  refine ⟨⟨by omega, by omega⟩, ?_⟩
  refine cloop_inv (fun xs acc M' => ∃ i : Nat, i ≤ m ∧ xs = rngI i (m - i) ∧ acc = ((List.range i).map (cnt c cs ls ys)).map .int ∧ Sit n q ql qd cs ls c M') ?_ ?_ _ _ _ ⟨0, Nat.zero_le _, by simp, rfl, sit⟩
  · rintro x xs acc M' ⟨i, hi, e, rfl, st⟩
    obtain ⟨j, hj⟩ : ∃ j, m - i = j + 1 := by
      cases hz : m - i with
      | zero => rw [hz, rngI_zero] at e; cases e
      | succ j => exact ⟨j, rfl⟩
    rw [hj, rngI_cons] at e
    obtain ⟨e1, e2⟩ := List.cons.inj e
    subst e1 e2
    refine ⟨True.intro, fun K hK => ?_⟩
    have hil : i < ls.length := by omega
    have hat : (ls.map it)[i]? = some (it (ls.getD i [])) := by
      rw [List.getElem?_map, List.getElem?_eq_getElem hil]
      simp [List.getD_eq_getElem?_getD, List.getElem?_eq_getElem hil]
    unfold c_law_asked_e5
    walk_at "dl_ev"
    refine cloop_inv (fun xs acc M2 => ∃ (rs : List Int), xs = rs.map (fun y => it (wl c cs ls y)) ∧ acc.length + (rs.filter fun y => decide (wl c cs ls y = ls.getD i [])).length = (ys.filter fun y => decide (wl c cs ls y = ls.getD i [])).length ∧ Sit n q ql qd cs ls c M2) ?_ ?_ _ _ _ ⟨ys, rfl, by simp, st⟩
    · rintro y xs acc M2 ⟨rs, e, hcn, st2⟩
      cases rs with
      | nil => cases e
      | cons z rs =>
        obtain ⟨e1, e2⟩ := List.cons.inj e
        subst e1 e2
        refine ⟨True.intro, fun K2 hK2 => ?_⟩
        have hlo := st2.lo
        unfold c_law_asked_t1
        walk_at "dl_ev"
        refine s_same (val_it _) (val_it _) (by
          rw [sz_it]
          have : (ls.getD i []).length ≤ 30 := by
            rw [List.getD_eq_getElem?_getD, List.getElem?_eq_getElem hil]
            exact hs _ (List.getElem_mem hil)
          omega) fun M3 r ap hr => ?_
        have hre : (r = true ↔ wl c cs ls z = ls.getD i []) := by
          rw [hr]
          constructor
          · intro h
            have h2 : (wl c cs ls z).map D.int = (ls.getD i []).map D.int := D.tup.inj h
            have h3 := congrArg intsOf h2
            rw [intsOf_map, intsOf_map] at h3
            exact Option.some.inj h3
          · intro h
            show it (wl c cs ls z) = _
            rw [h]
        walk_at "dl_ev"
        cases r with
        | true =>
          refine W.yes ?_
          walk_at "dl_ev"
          refine hK2 _ _ ⟨rs, rfl, ?_, st2.ap ap⟩
          rw [List.filter_cons_of_pos (by simpa using hre.mp rfl)] at hcn
          simp at hcn ⊢
          omega
        | false =>
          refine W.no ?_
          refine hK2 _ _ ⟨rs, rfl, ?_, st2.ap ap⟩
          rw [List.filter_cons_of_neg (by simp; intro h; exact absurd (hre.mpr h) (by decide))] at hcn
          exact hcn
    · rintro acc M2 ⟨rs, e, hcn, st2⟩
      refine ⟨True.intro, ?_⟩
      have : rs = [] := by cases rs with
        | nil => rfl
        | cons a b => cases e
      subst this
      refine hK _ _ ⟨i + 1, by omega, by rw [show m - (i + 1) = j by omega]; rfl, ?_, st2⟩
      rw [range_snoc, List.map_append]
      have : (acc.length : Int) = cnt c cs ls ys i := by
        rw [List.filter_nil, List.length_nil, Nat.add_zero] at hcn
        unfold cnt
        rw [hcn]
      rw [← this]
      rfl
  · rintro acc M' ⟨i, hi, e, rfl, st⟩
    refine ⟨True.intro, ?_⟩
    have him : i = m := by
      rcases Nat.lt_or_ge i m with z | z
      · obtain ⟨j, hj⟩ : ∃ j, m - i = j + 1 := ⟨m - i - 1, by omega⟩
        rw [hj, rngI_cons] at e
        cases e
      · omega
    subst him
    walk_at "dl_ev"
    refine ⟨⟨by omega, by omega⟩, ?_⟩
    have hA : (M' ++ [Cell.lst (((List.range i).map (cnt c cs ls ys)).map .int)])[M'.length]? = some (.lst (((List.range i).map (cnt c cs ls ys)).map .int)) := get_new
    have stA := st.new (N := [Cell.lst (((List.range i).map (cnt c cs ls ys)).map .int)])
    generalize hMA : M' ++ [Cell.lst (((List.range i).map (cnt c cs ls ys)).map .int)] = MA at hA stA
    refine cloop_inv (fun xs acc M2 => ∃ a : Nat, a ≤ i ∧ xs = rngI a (i - a) ∧ acc = ((List.range a).map fun (z : Nat) => (((blocks c 0 cs).count (z : Int) : Nat) : Int)).map .int ∧ M2 = MA) ?_ ?_ _ _ _ ⟨0, Nat.zero_le _, by simp, rfl, rfl⟩
    · rintro x xs acc M2 ⟨a, ha, e, rfl, rfl⟩
      obtain ⟨j, hj⟩ : ∃ j, i - a = j + 1 := by
        cases hz : i - a with
        | zero => rw [hz, rngI_zero] at e; cases e
        | succ j => exact ⟨j, rfl⟩
      rw [hj, rngI_cons] at e
      obtain ⟨e1, e2⟩ := List.cons.inj e
      subst e1 e2
      refine ⟨True.intro, fun K hK => ?_⟩
      have hde := stA.de
      unfold c_law_asked_e6
      walk_at "dl_ev"
      refine W.count hde (intsOf_map _) ?_
      refine hK _ _ ⟨a + 1, by omega, by rw [show i - (a + 1) = j by omega]; rfl, ?_, rfl⟩
      rw [range_snoc, List.map_append]
      rfl
    · rintro acc M2 ⟨a, ha, e, rfl, rfl⟩
      refine ⟨True.intro, ?_⟩
      have hai : a = i := by
        rcases Nat.lt_or_ge a i with z | z
        · obtain ⟨j, hj⟩ : ∃ j, i - a = j + 1 := ⟨i - a - 1, by omega⟩
          rw [hj, rngI_cons] at e
          cases e
        · omega
      subst hai
      refine eq_ints (get_app hA) get_new ?_
      have e3 : (List.range a).map (cnt c cs ls ys) = (List.range a).map fun (z : Nat) => (((blocks c 0 cs).count (z : Int) : Nat) : Int) := List.map_congr_left fun z hz => cnt_eq ch hl hn hy (List.mem_range.mp hz)
      rw [e3, decide_eq_true rfl]
      exact go _ (stA.new.pool)

/-- an own lottery is one -/
theorem lots_ok {m : Nat} {cs : List (Int × Int)} {c : Int} {ls : List (List Int)} (ch : Ch m cs c) (hl : ls.length = m) (hm : m ≤ 10) : Lots (lotD ls cs) := by
  have e : (lotD ls cs).map Prod.snd = cs := lotD_snd (by rw [hl, ch.len])
  refine ⟨by rw [e]; exact ch.den, by rw [e]; exact ch.top, ?_⟩
  unfold lotD
  simp
  have := ch.len
  omega
theorem draws_all {m : Nat} {cs : List (Int × Int)} {c : Int} {ls : List (List Int)} (ch : Ch m cs c) (hl : ls.length = m) : ∀ ys : List Int, Draws (lotD ls cs) ys (ys.map fun y => it (wl c cs ls y))
  | [] => .nil
  | y :: ys => by
    obtain ⟨i, q, h1, _, _, _, h5, h6⟩ := draw ch hl y
    have e : (lotD ls cs).map Prod.snd = cs := lotD_snd (by rw [hl, ch.len])
    refine .cons ⟨i, q, ?_, h5, h6⟩ (draws_all ch hl ys)
    rw [e]
    exact h1
theorem rng_ints (c : Int) : rngI 0 (c - 0).toNat = ((List.range c.toNat).map fun (j : Nat) => (j : Int)).map D.int := by
  unfold rngI
  rw [List.map_map, Int.sub_zero]
  refine List.map_congr_left fun j _ => ?_
  simp
theorem perm_ints {ds : List D} {ns : List Int} (h : ds.Perm (ns.map D.int)) : ∃ ys : List Int, ds = ys.map D.int ∧ ys.Perm ns := by
  have hall : ∀ d ∈ ds, ∃ i, d = D.int i := fun d hd => by
    obtain ⟨i, _, e⟩ := List.mem_map.mp (h.mem_iff.mp hd)
    exact ⟨i, e.symm⟩
  have hex : ∀ ds : List D, (∀ d ∈ ds, ∃ i, d = D.int i) → ∃ ys : List Int, ds = ys.map D.int := by
    intro ds
    induction ds with
    | nil => intro _; exact ⟨[], rfl⟩
    | cons d ds ih =>
      intro hd
      obtain ⟨i, rfl⟩ := hd d List.mem_cons_self
      obtain ⟨ys, rfl⟩ := ih fun x hx => hd x (List.mem_cons_of_mem _ hx)
      exact ⟨i :: ys, rfl⟩
  obtain ⟨ys, rfl⟩ := hex ds hall
  refine ⟨ys, rfl, ?_⟩
  have h2 := h.map fun d => match d with | .int i => i | _ => 0
  rw [List.map_map, List.map_map] at h2
  have id1 : ∀ l : List Int, l.map ((fun d => match d with | D.int i => i | _ => 0) ∘ D.int) = l := fun l => by
    rw [show ((fun d => match d with | D.int i => i | _ => 0) ∘ D.int) = id from rfl, List.map_id]
  rw [id1, id1] at h2
  exact h2
section
variable {k n q ql qd m : Nat} {ex : XP} {M : Mem} {cs : List (Int × Int)} {ls : List (List Int)} {c : Int} {P : Po} {o2 o3 o9 o10 o11 o12 o13 o14 o15 o16 o17 o18 : Option D}
theorem s_tail2 (sit : Sit n q ql qd cs ls c M) (ch : Ch m cs c) (hm : m ≤ 10) (hl : ls.length = m) (hn : ls.Nodup) (hs : ∀ l ∈ ls, l.length ≤ 30) (go : ∀ M', Pool M' n → P (.bl true) M') :
    c_law_asked_s2 ⟨sem T (k + 4), fun _ => ex⟩ ⟨fun _ M' => P .non M', P, fun _ _ => False, fun _ _ => False⟩ [some (.ref n), some (.int (m : Nat)), o2, o3, some (.ref q), some (.int c), some (.ref ql), some (.ref qd), some (.tup ((lotD ls cs).map lot)), o9, o10, o11, o12, o13, o14, o15, o16, o17, o18] M := by
  have szl : sizeLine = 16777216 := by decide
  have hc := ch.small
  have hc0 := ch.pos
  have hln := sit.pool.lt
  unfold c_law_asked_s2
  walk_at "dl_ev"
  show RgB 0 c ∧ _
  refine ⟨⟨by omega, by omega, by omega, by omega, by omega⟩, ?_⟩
  rw [rng_ints]
  walk_at "dl_ev"
  refine s_mixed (sit.new.pool) get_new (by omega) (by simp; omega) fun qm zs M2 kp2 hp2 hq2 hz hpm => ?_
  have st2 := sit.new.kp kp2 hp2
  obtain ⟨ys, rfl, hy⟩ := perm_ints hpm
  walk_at "dl_ev"
  refine s_nights (lots_ok ch hl hm) (draws_all ch hl ys) fun M3 ap => ?_
  have hyl : ys.length = c.toNat := by rw [hy.length_eq]; simp
  walk_at "dl_ev"
  refine W.dec_not (fun h => ?_) (fun h => ?_)
  · exact absurd (show ((ys.map fun y => it (wl c cs ls y)).length : Int) = c by rw [List.length_map, hyl]; omega) h
  · walk_at "dl_ev"
    exact s_tail1 (k := k + 3) (st2.ap ap) ch hm hl hn hs hy go
theorem s_tail3 (sit : Sit n q ql qd cs ls c M) (ch : Ch m cs c) (hm : m ≤ 10) (hl : ls.length = m) (hn : ls.Nodup) (hs : ∀ l ∈ ls, l.length ≤ 30) (go : ∀ M', Pool M' n → P (.bl true) M') :
    c_law_asked_s3 ⟨sem T (k + 4), fun _ => ex⟩ ⟨fun _ M' => P .non M', P, fun _ _ => False, fun _ _ => False⟩ [some (.ref n), some (.int (m : Nat)), o2, o3, some (.ref q), some (.int c), some (.ref ql), some (.ref qd), some (.tup ((lotD ls cs).map lot)), o9, o10, o11, o12, o13, o14, o15, o16, o17, o18] M := by
  unfold c_law_asked_s3
  walk_at "dl_ev"
  refine W.dec (fun h => ?_) (fun h => ?_)
  · walk_at "dl_ev"
    exact go _ sit.pool
  · walk_at "dl_ev"
    exact s_tail2 sit ch hm hl hn hs go
end

theorem pd_all {p : Int × Int → Prop} (h0 : p (0, 1)) : ∀ (cs : List (Int × Int)) (gs : List Nat), (∀ x ∈ cs, p x) → ∀ x ∈ pd gs cs, p x
  | [], [], _ => fun x hx => by cases hx
  | p :: cs, [], _ => fun x hx => by cases hx
  | [], g :: gs, _ => fun x hx => by
    unfold pd at hx
    rw [List.eq_of_mem_replicate hx]
    exact h0
  | q :: cs, g :: gs, h => fun x hx => by
    unfold pd at hx
    rcases List.mem_append.mp hx with z | z
    · rw [List.eq_of_mem_replicate z]
      exact h0
    · rcases List.mem_cons.mp z with y | y
      · subst y; exact h _ List.mem_cons_self
      · exact pd_all h0 cs gs (fun x hx => h x (List.mem_cons_of_mem _ hx)) x y
theorem Sit.set {n q ql qd p : Nat} {cs : List (Int × Int)} {ls : List (List Int)} {c : Int} {M : Mem} {x : Cell} (s : Sit n q ql qd cs ls c M) (h1 : p ≠ n) (h2 : p ≠ q) (h3 : p ≠ ql) (h4 : p ≠ qd) : Sit n q ql qd cs ls c (M.set p x) :=
  ⟨s.pool.keep (get_set_ne h1), (get_set_ne h2).trans s.ch, (get_set_ne h3).trans s.lo, (get_set_ne h4).trans s.de, s.n1, s.n2, s.n3⟩
theorem gI_one (x : Int) : gI x 1 = 1 := by unfold gI; simp
section
variable {k n q ql qd m qn qg qt qp : Nat} {ex : XP} {M : Mem} {cs : List (Int × Int)} {ls : List (List Int)} {c : Int} {js : List Int} {gs : List Nat} {P : Po} {o2 o3 o10 o11 o15 o16 o17 o18 : Option D}
theorem s_tail4 {PD : List (Int × Int)} {g : Nat} (sit : Sit n q ql qd cs ls c M) (ch : Ch m cs c) (hm : m ≤ 10) (hl : ls.length = m) (hn : ls.Nodup) (hs : ∀ l ∈ ls, l.length ≤ 30) (hgl : gs.length = cs.length + 1) (hg : M[qg]? = some (.lst (gs.map fun g => .int (g : Nat)))) (hgm : gs[m]? = some g) (hg1 : g ≤ 1)
    (ht : M[qt]? = some (.lst ((th 0 gs cs).map fun z => .int (z : Nat)))) (hp : M[qp]? = some (.lst (PD.map fr))) (hpd : PD ++ List.replicate g (0, 1) = pd gs cs) (hpl : PD.length ≤ 100) (hj : M[qn]? = some (.lst (js.map .int)))
    (d1 : qp ≠ n) (d2 : qp ≠ q) (d3 : qp ≠ ql) (d4 : qp ≠ qd) (d5 : qp ≠ qt) (d6 : qp ≠ qn) (go : ∀ M', Pool M' n → P (.bl true) M') :
    c_law_asked_s4 ⟨sem T (k + 4), fun _ => ex⟩ ⟨fun _ M' => P .non M', P, fun _ _ => False, fun _ _ => False⟩ [some (.ref n), some (.int (m : Nat)), o2, o3, some (.ref q), some (.int c), some (.ref ql), some (.ref qd), some (.tup ((lotD ls cs).map lot)), some (.ref qn), o10, o11, some (.ref qg), some (.ref qt), some (.ref qp), o15, o16, o17, o18] M := by
  have szl : sizeLine = 16777216 := by decide
  have hat : (gs.map fun g => D.int (g : Nat))[m]? = some (.int (g : Nat)) := by rw [List.getElem?_map, hgm]; rfl
  unfold c_law_asked_s4
  walk_at "dl_ev"
  refine W.rep get_new ⟨by omega, by omega, by simp; omega⟩ ?_
  rw [rep_one]
  walk_at "dl_ev"
  refine W.extend (get_app (get_app hp)) get_new (by simp; omega) ?_
  have e1 : PD.map fr ++ List.replicate (g : Int).toNat (D.tup [D.int 0, D.int 1]) = (pd gs cs).map fr := by
    rw [← hpd, List.map_append, List.map_replicate]
    rfl
  rw [e1]
  have e0 : PD.length + g = (pd gs cs).length := by rw [← hpd]; simp
  generalize hMe : (((M ++ [Cell.lst [D.tup [D.int 0, D.int 1]]]) ++ [Cell.lst (List.replicate (g : Int).toNat (D.tup [D.int 0, D.int 1]))]).set qp (.lst ((pd gs cs).map fr))) = Me
  have sit2 : Sit n q ql qd cs ls c Me := by rw [← hMe]; exact (sit.new.new).set d1 d2 d3 d4
  have ht2 : Me[qt]? = some (.lst ((th 0 gs cs).map fun z => .int (z : Nat))) := by rw [← hMe, get_set_ne d5]; exact get_app (get_app ht)
  have hp2 : Me[qp]? = some (.lst ((pd gs cs).map fr)) := by rw [← hMe, get_set_self (get_app (get_app hp))]
  have hj2 : Me[qn]? = some (.lst (js.map .int)) := by rw [← hMe, get_set_ne d6]; exact get_app (get_app hj)
  clear hMe hp hg ht hj
  walk_at "dl_ev"
  have ecut : cutD (js.map D.int) none (some 8) = (js.take 8).map D.int := by
    rw [show (some (8 : Int)) = some ((8 : Nat) : Int) from rfl, W.cut_to, List.map_take]
  rw [ecut]
  refine floop_inv (fun xs ρ M' => ∃ (rs : List Int) (o10 : Option D), ρ = [some (.ref n), some (.int (m : Nat)), o2, o3, some (.ref q), some (.int c), some (.ref ql), some (.ref qd), some (.tup ((lotD ls cs).map lot)), some (.ref qn), o10, o11, some (.ref qg), some (.ref qt), some (.ref qp), o15, o16, o17, o18] ∧ xs = rs.map .int ∧ Ap (Me ++ [Cell.lst ((js.take 8).map D.int)]) M') ?_ ?_ _ _ _ ⟨js.take 8, o10, rfl, rfl, Ap.refl⟩
  · rintro x xs ρ M' ⟨rs, o10, rfl, e, ap⟩
    cases rs with
    | nil => cases e
    | cons j rs =>
      obtain ⟨e1, e2⟩ := List.cons.inj e
      subst e1 e2
      refine ⟨ap.get get_new, fun K hK => ?_⟩
      have hpM := ap.get (get_app hp2)
      have stM := (sit2.new).ap ap
      obtain ⟨i, q', h1, h2, h3, h4, h5, h6⟩ := draw ch hl j
      have h0 := Int.emod_nonneg j (by have := ch.pos; omega : c ≠ 0)
      rw [ch.bot] at h1
      obtain ⟨z, z1, z2, _⟩ := pl_pd cs gs (j % c) 0 0 i h0 hgl h1
      have hbp : bot 1 (pd gs cs) = c := by rw [bot_pd cs gs 1 (by decide) ch.den hgl, ch.bot]
      unfold c_law_asked_b3
      walk_at "dl_ev"
      refine s_taking (k := k + 1) (pd_all (p := fun x => 0 ≤ x.1 ∧ 0 < x.2 ∧ x.2 ≤ 10000) (by decide) cs gs ch.den) (pd_all (p := fun x => x.1 ≤ 10000) (by decide) cs gs ch.top) fun M3 ap3 => ?_
      rw [hbp, z2]
      have htM := ap3.get (ap.get (get_app ht2))
      have hdM := (stM.ap ap3).de
      have hcp := ch.pos
      have hdat : ((blocks c 0 cs).map D.int)[(j % c).toNat]? = some (.int (i : Nat)) := by rw [List.getElem?_map, h2]; rfl
      have hdat2 : atI ((blocks c 0 cs).map D.int) (j % c) = some (.int (i : Nat)) := by
        have := W.at_nat hdat
        rwa [Int.toNat_of_nonneg h0] at this
      have htat : ((th 0 gs cs).map fun z => D.int (z : Nat))[i]? = some (.int (z : Nat)) := by
        rw [Nat.sub_zero] at z1
        rw [List.getElem?_map, z1]
        rfl
      unfold plD
      walk_at "dl_ev"
      refine s_same (.int _) (.int _) (by simp [sz]) fun M4 r ap4 hr => ?_
      have : r = true := hr.mpr rfl
      subst this
      walk_at "dl_ev"
      exact hK _ _ ⟨rs, _, rfl, rfl, (ap.trans ap3).trans ap4⟩
  · rintro ρ M' ⟨rs, o10, rfl, e, ap⟩
    refine ⟨ap.get get_new, ?_⟩
    exact s_tail3 ((sit2.new).ap ap) ch hm hl hn hs go
end

section
variable {k n q ql qd m qn : Nat} {ex : XP} {M : Mem} {cs : List (Int × Int)} {ls : List (List Int)} {c : Int} {js : List Int} {P : Po} {o2 o3 o10 o11 o12 o13 o14 o15 o16 o17 o18 : Option D}
theorem s_tail5 (sit : Sit n q ql qd cs ls c M) (ch : Ch m cs c) (hm : m ≤ 10) (hl : ls.length = m) (hn : ls.Nodup) (hs : ∀ l ∈ ls, l.length ≤ 30) (hj : M[qn]? = some (.lst (js.map .int))) (hqn : qn ≠ n) (go : ∀ M', Pool M' n → P (.bl true) M') :
    c_law_asked_s5 ⟨sem T (k + 4), fun _ => ex⟩ ⟨fun _ M' => P .non M', P, fun _ _ => False, fun _ _ => False⟩ [some (.ref n), some (.int (m : Nat)), o2, o3, some (.ref q), some (.int c), some (.ref ql), some (.ref qd), some (.tup ((lotD ls cs).map lot)), some (.ref qn), o10, o11, o12, o13, o14, o15, o16, o17, o18] M := by
  have szl : sizeLine = 16777216 := by decide
  have hcl := ch.len
  unfold c_law_asked_s5
  walk_at "dl_ev"
  refine ⟨⟨by omega, by omega⟩, ?_⟩
  refine cloop_inv (fun xs acc M' => ∃ gs : List Nat, acc = gs.map (fun g => .int (g : Nat)) ∧ xs.length + gs.length = m + 1 ∧ (∀ g ∈ gs, g ≤ 1) ∧ Sit n q ql qd cs ls c M' ∧ M'[qn]? = some (.lst (js.map .int))) ?_ ?_ _ _ _ ⟨[], rfl, by rw [rngI_length]; simp, (fun g h => (by cases h)), sit, hj⟩
  · rintro x xs acc M' ⟨gs, rfl, hlen, hg1, st, hj'⟩
    refine ⟨True.intro, fun K hK => ?_⟩
    unfold c_law_asked_e4
    walk_at "dl_ev"
    refine s_take st.pool (by omega) (log_small (by omega) (by omega)) fun r M2 a1 b1 kp2 hp2 => ?_
    walk_at "dl_ev"
    refine hK _ _ ⟨gs ++ [(r / 2).toNat], ?_, by simp at hlen ⊢; omega, ?_, st.kp kp2 hp2, kp2.get hj' hqn⟩
    · have : ((r / 2).toNat : Int) = r / 2 := by omega
      simp
      omega
    · intro g hg
      rcases List.mem_append.mp hg with z | z
      · exact hg1 g z
      · have : g = (r / 2).toNat := by simpa using z
        omega
  · rintro acc M' ⟨gs, rfl, hlen, hg1, st, hj'⟩
    refine ⟨True.intro, ?_⟩
    have hgl : gs.length = m + 1 := by simpa using hlen
    walk_at "dl_ev"
    refine ⟨⟨by omega, by omega⟩, ?_⟩
    have hqnl := lt_of_get hj'
    have l1 := lt_of_get st.ch
    have l2 := lt_of_get st.lo
    have l3 := lt_of_get st.de
    have l4 := st.pool.lt
    generalize hM1 : M' ++ [Cell.lst (gs.map fun g => D.int (g : Nat))] = M1
    have e1 : M1.length = M'.length + 1 := by rw [← hM1]; simp
    have e2 : (M1 ++ [Cell.lst []]).length = M'.length + 2 := by simp; omega
    have st1 : Sit n q ql qd cs ls c M1 := by rw [← hM1]; exact st.new
    have hg : M1[M'.length]? = some (.lst (gs.map fun g => D.int (g : Nat))) := by rw [← hM1]; exact get_new
    have hj1 : M1[qn]? = some (.lst (js.map .int)) := by rw [← hM1]; exact get_app hj'
    clear hM1
    rw [e2, e1]
    refine floop_inv (fun xs ρ M2 => ∃ (i : Nat) (o15 : Option D) (PD : List (Int × Int)) (TH : List Nat), ρ = [some (.ref n), some (.int (m : Nat)), o2, o3, some (.ref q), some (.int c), some (.ref ql), some (.ref qd), some (.tup ((lotD ls cs).map lot)), some (.ref qn), o10, o11, some (.ref M'.length), some (.ref (M'.length + 1)), some (.ref (M'.length + 2)), o15, o16, o17, o18] ∧ i ≤ m ∧ xs = rngI i (m - i) ∧
        PD ++ pd (gs.drop i) (cs.drop i) = pd gs cs ∧ TH ++ th PD.length (gs.drop i) (cs.drop i) = th 0 gs cs ∧ PD.length ≤ 3 * i ∧ TH.length ≤ i ∧ Sit n q ql qd cs ls c M2 ∧ M2[qn]? = some (.lst (js.map .int)) ∧ M2[M'.length]? = some (.lst (gs.map fun g => D.int (g : Nat))) ∧ M2[M'.length + 1]? = some (.lst (TH.map fun z => D.int (z : Nat))) ∧ M2[M'.length + 2]? = some (.lst (PD.map fr))) ?_ ?_ _ _ _
      ⟨0, o15, [], [], rfl, Nat.zero_le _, by simp, rfl, rfl, Nat.zero_le _, Nat.zero_le _, st1.new.new, get_app (get_app hj1), get_app (get_app hg), by rw [← e1]; exact get_app get_new, by rw [← e2]; exact get_new⟩
    · rintro x xs ρ M2 ⟨i, o15, PD, TH, rfl, hi, e, hpd, hth, hpl, htl, st2, j2, g2, t2, p2⟩
      obtain ⟨j, hj⟩ : ∃ j, m - i = j + 1 := by
        cases hz : m - i with
        | zero => rw [hz, rngI_zero] at e; cases e
        | succ j => exact ⟨j, rfl⟩
      rw [hj, rngI_cons] at e
      obtain ⟨e3, e4⟩ := List.cons.inj e
      subst e3 e4
      refine ⟨True.intro, fun K hK => ?_⟩
      have hic : i < cs.length := by omega
      have hig : i < gs.length := by omega
      have hdc : cs.drop i = cs[i] :: cs.drop (i + 1) := List.drop_eq_getElem_cons hic
      have hdg : gs.drop i = gs[i] :: gs.drop (i + 1) := List.drop_eq_getElem_cons hig
      rw [hdc, hdg] at hpd hth
      have hgi := hg1 gs[i] (List.getElem_mem hig)
      have gat : (gs.map fun g => D.int (g : Nat))[i]? = some (.int (gs[i] : Nat)) := by rw [List.getElem?_map, List.getElem?_eq_getElem hig]; rfl
      have cat : (cs.map fr)[i]? = some (fr cs[i]) := by rw [List.getElem?_map, List.getElem?_eq_getElem hic]; rfl
      generalize hgv : gs[i] = gv at *
      generalize hcv : cs[i] = cv at *
      unfold c_law_asked_b2
      walk_at "dl_ev"
      refine W.rep get_new ⟨by omega, by omega, by simp; omega⟩ ?_
      rw [rep_one]
      walk_at "dl_ev"
      refine W.extend (get_app (get_app p2)) get_new (by simp; omega) ?_
      have e5 : PD.map fr ++ List.replicate (gv : Int).toNat (D.tup [D.int 0, D.int 1]) = (PD ++ List.replicate gv (0, 1)).map fr := by
        rw [List.map_append, List.map_replicate]
        rfl
      rw [e5]
      have hlM := lt_of_get p2
      generalize hMe : (((M2 ++ [Cell.lst [D.tup [D.int 0, D.int 1]]]) ++ [Cell.lst (List.replicate (gv : Int).toNat (D.tup [D.int 0, D.int 1]))]).set (M'.length + 2) (.lst ((PD ++ List.replicate gv (0, 1)).map fr))) = Me
      have st3 : Sit n q ql qd cs ls c Me := by rw [← hMe]; exact (st2.new.new).set (by omega) (by omega) (by omega) (by omega)
      have j3 : Me[qn]? = some (.lst (js.map .int)) := by rw [← hMe, get_set_ne (by omega)]; exact get_app (get_app j2)
      have g3 : Me[M'.length]? = some (.lst (gs.map fun g => D.int (g : Nat))) := by rw [← hMe, get_set_ne (by omega)]; exact get_app (get_app g2)
      have t3 : Me[M'.length + 1]? = some (.lst (TH.map fun z => D.int (z : Nat))) := by rw [← hMe, get_set_ne (by omega)]; exact get_app (get_app t2)
      have p3 : Me[M'.length + 2]? = some (.lst ((PD ++ List.replicate gv (0, 1)).map fr)) := by rw [← hMe, get_set_self (get_app (get_app p2))]
      clear hMe st2 j2 g2 t2 p2
      have ht4 : (TH.map fun z => D.int (z : Nat)).length < sizeLine := by rw [List.length_map]; omega
      walk_at "dl_ev"
      have p4 : (Me.set (M'.length + 1) (.lst ((TH.map fun z => D.int (z : Nat)) ++ [D.int (((PD ++ List.replicate gv (0, 1)).map fr).length : Nat)])))[M'.length + 2]? = some (.lst ((PD ++ List.replicate gv (0, 1)).map fr)) := by rw [get_set_ne (by omega)]; exact p3
      have c4 : (Me.set (M'.length + 1) (.lst ((TH.map fun z => D.int (z : Nat)) ++ [D.int (((PD ++ List.replicate gv (0, 1)).map fr).length : Nat)])))[q]? = some (.lst (cs.map fr)) := by rw [get_set_ne (by omega)]; exact st3.ch
      have hp4 : ((PD ++ List.replicate gv (0, 1)).map fr).length < sizeLine := by simp; omega
      walk_at "dl_ev"
      refine hK _ _ ⟨i + 1, _, PD ++ List.replicate gv (0, 1) ++ [cv], TH ++ [PD.length + gv], rfl, by omega, by rw [show m - (i + 1) = j by omega]; rfl, ?_, ?_, by simp; omega, by simp; omega, ?_, ?_, ?_, ?_, ?_⟩
      · rw [← hpd]
        simp [pd]
      · rw [← hth]
        simp [th]
        congr 1
      · exact (st3.set (by omega) (by omega) (by omega) (by omega)).set (by omega) (by omega) (by omega) (by omega)
      · rw [get_set_ne (by omega), get_set_ne (by omega)]; exact j3
      · rw [get_set_ne (by omega), get_set_ne (by omega)]; exact g3
      · rw [get_set_ne (by omega), get_set_self t3]; simp
      · rw [get_set_self p4]; simp
    · rintro ρ M2 ⟨i, o15, PD, TH, rfl, hi, e, hpd, hth, hpl, htl, st2, j2, g2, t2, p2⟩
      refine ⟨True.intro, ?_⟩
      have him : i = m := by
        rcases Nat.lt_or_ge i m with z | z
        · obtain ⟨j, hj⟩ : ∃ j, m - i = j + 1 := ⟨m - i - 1, by omega⟩
          rw [hj, rngI_cons] at e
          cases e
        · omega
      subst him
      have hig : i < gs.length := by omega
      have hdc : cs.drop i = [] := List.drop_eq_nil_of_le (by omega)
      have hdg : gs.drop i = [gs[i]] := by
        rw [List.drop_eq_getElem_cons hig, List.drop_eq_nil_of_le (by omega)]
      rw [hdc, hdg] at hpd hth
      have hth : TH ++ [] = th 0 gs cs := hth
      rw [List.append_nil] at hth
      subst hth
      exact s_tail4 (gs := gs) (PD := PD) (g := gs[i]) st2 ch hm hl hn hs (by omega) g2 (List.getElem?_eq_getElem hig) (hg1 _ (List.getElem_mem hig)) t2 p2 hpd (by omega) j2 (by omega) (by omega) (by omega) (by omega) (by omega) (by omega) go
end

section
variable {k n q ql qd m qn : Nat} {ex : XP} {M : Mem} {cs : List (Int × Int)} {ls : List (List Int)} {c : Int} {js : List Int} {P : Po} {o2 o3 o6 o7 o8 o9 o10 o11 o12 o13 o14 o15 o16 o17 o18 : Option D}
theorem wl_len (hs : ∀ l ∈ ls, l.length ≤ 30) (y : Int) : (wl c cs ls y).length ≤ 30 := by
  unfold wl
  rw [List.getD_eq_getElem?_getD]
  cases h : ls[((blocks c 0 cs).getD (y % c).toNat 0).toNat]? with
  | none => simp
  | some l => exact hs l (List.mem_of_getElem? h)
theorem s_tail6 (sit : Sit n q ql qd cs ls c M) (ch : Ch m cs c) (hm : m ≤ 10) (hl : ls.length = m) (hn : ls.Nodup) (hs : ∀ l ∈ ls, l.length ≤ 30) (hj : M[qn]? = some (.lst (js.map .int))) (hqn : qn ≠ n) (hjl : js.length ≤ 1000) (go : ∀ M', Pool M' n → P (.bl true) M') :
    c_law_asked_s6 ⟨sem T (k + 4), fun _ => ex⟩ ⟨fun _ M' => P .non M', P, fun _ _ => False, fun _ _ => False⟩ [some (.ref n), some (.int (m : Nat)), o2, o3, some (.ref q), some (.int c), some (.ref ql), some (.ref qd), some (.tup ((lotD ls cs).map lot)), some (.ref qn), o10, o11, o12, o13, o14, o15, o16, o17, o18] M := by
  have szl : sizeLine = 16777216 := by decide
  have hcp := ch.pos
  have hde := sit.de
  have hlo := sit.lo
  unfold c_law_asked_s6
  walk_at "dl_ev"
  refine cloop_inv (fun xs acc M' => ∃ (r1 r2 : List Int), js = r1 ++ r2 ∧ xs = r2.map .int ∧ acc = r1.map (fun y => it (wl c cs ls y)) ∧ M' = M) ?_ ?_ _ _ _ ⟨[], js, rfl, rfl, rfl, rfl⟩
  · rintro x xs acc M' ⟨r1, r2, e0, e, rfl, rfl⟩
    cases r2 with
    | nil => cases e
    | cons j r2 =>
      obtain ⟨e1, e2⟩ := List.cons.inj e
      subst e1 e2
      refine ⟨hj, fun K hK => ?_⟩
      obtain ⟨i, q', h1, h2, h3, h4, h5, h6⟩ := draw ch hl j
      have h0 := Int.emod_nonneg j (by omega : c ≠ 0)
      have hdat2 : atI ((blocks c 0 cs).map D.int) (j % c) = some (.int (i : Nat)) := by
        have hdat : ((blocks c 0 cs).map D.int)[(j % c).toNat]? = some (.int (i : Nat)) := by rw [List.getElem?_map, h2]; rfl
        have := W.at_nat hdat
        rwa [Int.toNat_of_nonneg h0] at this
      have lat : (ls.map it)[i]? = some (it (wl c cs ls j)) := by rw [List.getElem?_map, h4]; rfl
      unfold c_law_asked_e3
      walk_at "dl_ev"
      exact hK _ _ ⟨r1 ++ [j], r2, by rw [List.append_assoc]; exact e0, rfl, by simp, rfl⟩
  · rintro acc M' ⟨r1, r2, e0, e, rfl, rfl⟩
    have : r2 = [] := by cases r2 with
      | nil => rfl
      | cons a b => cases e
    subst this
    rw [List.append_nil] at e0
    subst e0
    refine ⟨hj, ?_⟩
    walk_at "dl_ev"
    refine s_nights (lots_ok ch hl hm) (draws_all ch hl js) fun M2 ap => ?_
    walk_at "dl_ev"
    have hv : Val (.tup (js.map fun y => it (wl c cs ls y))) := .tup _ fun x hx => by
      obtain ⟨y, _, rfl⟩ := List.mem_map.mp hx
      exact val_it _
    refine s_same hv hv ?_ fun M3 r ap2 hr => ?_
    · have hb := szs_le (ds := js.map fun y => it (wl c cs ls y)) (b := 31) fun d hd => by
        obtain ⟨y, _, rfl⟩ := List.mem_map.mp hd
        have := wl_len (c := c) (cs := cs) hs y
        show sz (it (wl c cs ls y)) ≤ 31
        rw [sz_it]
        omega
      show szs (js.map fun y => it (wl c cs ls y)) + 1 ≤ 1000000
      rw [List.length_map] at hb
      omega
    · have : r = true := hr.mpr rfl
      subst this
      walk_at "dl_ev"
      exact s_tail5 ((sit.ap ap).ap ap2) ch hm hl hn hs (ap2.get (ap.get hj)) hqn go
theorem s_tail7 (sit : Sit n q ql qd cs ls c M) (ch : Ch m cs c) (hm : m ≤ 10) (hl : ls.length = m) (hn : ls.Nodup) (hs : ∀ l ∈ ls, l.length ≤ 30) (hj : M[qn]? = some (.lst (js.map .int))) (hqn : qn ≠ n) (hjl : js.length ≤ 1000) (go : ∀ M', Pool M' n → P (.bl true) M') :
    c_law_asked_s7 ⟨sem T (k + 4), fun _ => ex⟩ ⟨fun _ M' => P .non M', P, fun _ _ => False, fun _ _ => False⟩ [some (.ref n), some (.int (m : Nat)), o2, o3, some (.ref q), some (.int c), some (.ref ql), some (.ref qd), some (.tup ((lotD ls cs).map lot)), some (.ref qn), o10, o11, o12, o13, o14, o15, o16, o17, o18] M := by
  have szl : sizeLine = 16777216 := by decide
  have hcp := ch.pos
  unfold c_law_asked_s7
  walk_at "dl_ev"
  have ecut : cutD (js.map D.int) none (some 6) = (js.take 6).map D.int := by
    rw [show (some (6 : Int)) = some ((6 : Nat) : Int) from rfl, W.cut_to, List.map_take]
  rw [ecut]
  refine floop_inv (fun xs ρ M' => ∃ (rs : List Int) (o10 : Option D), ρ = [some (.ref n), some (.int (m : Nat)), o2, o3, some (.ref q), some (.int c), some (.ref ql), some (.ref qd), some (.tup ((lotD ls cs).map lot)), some (.ref qn), o10, o11, o12, o13, o14, o15, o16, o17, o18] ∧ xs = rs.map .int ∧ Ap (M ++ [Cell.lst ((js.take 6).map D.int)]) M') ?_ ?_ _ _ _ ⟨js.take 6, o10, rfl, rfl, Ap.refl⟩
  · rintro x xs ρ M' ⟨rs, o10, rfl, e, ap⟩
    cases rs with
    | nil => cases e
    | cons j rs =>
      obtain ⟨e1, e2⟩ := List.cons.inj e
      subst e1 e2
      refine ⟨ap.get get_new, fun K hK => ?_⟩
      obtain ⟨i, q', h1, h2, h3, h4, h5, h6⟩ := draw ch hl j
      have h0 := Int.emod_nonneg j (by omega : c ≠ 0)
      have hdat2 : atI ((blocks c 0 cs).map D.int) (j % c) = some (.int (i : Nat)) := by
        have hdat : ((blocks c 0 cs).map D.int)[(j % c).toNat]? = some (.int (i : Nat)) := by rw [List.getElem?_map, h2]; rfl
        have := W.at_nat hdat
        rwa [Int.toNat_of_nonneg h0] at this
      have lat : (ls.map it)[i]? = some (it (wl c cs ls j)) := by rw [List.getElem?_map, h4]; rfl
      have es : (lotD ls cs).map Prod.snd = cs := lotD_snd (by rw [hl, ch.len])
      unfold c_law_asked_b1
      walk_at "dl_ev"
      refine s_night (k := k + 1) (lots_ok ch hl hm) (by rw [es]; exact h1) h5 fun M2 ap2 => ?_
      have hde := ((sit.new.ap ap).ap ap2).de
      have hlo := ((sit.new.ap ap).ap ap2).lo
      rw [h6]
      walk_at "dl_ev"
      refine s_same (val_it _) (val_it _) (by rw [sz_it]; have := wl_len (c := c) (cs := cs) hs j; omega) fun M3 r ap3 hr => ?_
      have : r = true := hr.mpr rfl
      subst this
      walk_at "dl_ev"
      exact hK _ _ ⟨rs, _, rfl, rfl, (ap.trans ap2).trans ap3⟩
  · rintro ρ M' ⟨rs, o10, rfl, e, ap⟩
    refine ⟨ap.get get_new, ?_⟩
    exact s_tail6 (sit.new.ap ap) ch hm hl hn hs (ap.get (get_app hj)) hqn hjl go
theorem s_tail8 {w : Bool} (hp : Pool M n) (hq : M[q]? = some (.lst (cs.map fr))) (hqn : q ≠ n) (ch : Ch m cs c) (hm : m ≤ 10) (go : ∀ M', Pool M' n → P (.bl true) M') :
    c_law_asked_s8 ⟨sem T (k + 4), fun _ => ex⟩ ⟨fun _ M' => P .non M', P, fun _ _ => False, fun _ _ => False⟩ [some (.ref n), some (.int (m : Nat)), some (.bl w), o3, some (.ref q), some (.int c), o6, o7, o8, o9, o10, o11, o12, o13, o14, o15, o16, o17, o18] M := by
  have szl : sizeLine = 16777216 := by decide
  have hcp := ch.pos
  have hcs := ch.small
  have hcl := ch.len
  have hln := hp.lt
  unfold c_law_asked_s8
  walk_at "dl_ev"
  refine s_lots (k := k + 2) hp hm fun ql ls M1 kp1 hp1 hq1 hlo hl hn hs => ?_
  have hqM1 := kp1.get hq hqn
  walk_at "dl_ev"
  refine s_dealt (k := k + 3) hqM1 ch.den ch.top hcp hcs ch.sum (by omega) fun qd M2 ap2 hq2 hde => ?_
  have hM12 := kp1.len
  have sit : Sit n q ql qd cs ls c M2 := ⟨ap2.pool hp1, ap2.get hqM1, ap2.get hlo, hde, hqn, by omega, by omega⟩
  have hlo2 := sit.lo
  have hch2 := sit.ch
  walk_at "dl_ev"
  refine ⟨⟨by omega, by omega⟩, ?_⟩
  refine cloop_inv (fun xs acc M' => ∃ i : Nat, i ≤ m ∧ xs = rngI i (m - i) ∧ acc = ((lotD ls cs).take i).map lot ∧ M' = M2) ?_ ?_ _ _ _ ⟨0, Nat.zero_le _, by simp, by simp, rfl⟩
  · rintro x xs acc M' ⟨i, hi, e, rfl, rfl⟩
    obtain ⟨j, hj⟩ : ∃ j, m - i = j + 1 := by
      cases hz : m - i with
      | zero => rw [hz, rngI_zero] at e; cases e
      | succ j => exact ⟨j, rfl⟩
    rw [hj, rngI_cons] at e
    obtain ⟨e1, e2⟩ := List.cons.inj e
    subst e1 e2
    refine ⟨True.intro, fun K hK => ?_⟩
    have hil : i < ls.length := by omega
    have hic : i < cs.length := by omega
    have lat : (ls.map it)[i]? = some (it ls[i]) := by rw [List.getElem?_map, List.getElem?_eq_getElem hil]; rfl
    have cat : (cs.map fr)[i]? = some (fr cs[i]) := by rw [List.getElem?_map, List.getElem?_eq_getElem hic]; rfl
    unfold c_law_asked_e2
    walk_at "dl_ev"
    refine hK _ _ ⟨i + 1, by omega, by rw [show m - (i + 1) = j by omega]; rfl, ?_, rfl⟩
    have hll : i < (lotD ls cs).length := by unfold lotD; simp; omega
    have ee : (lotD ls cs)[i] = (it ls[i], cs[i]) := by simp [lotD]
    rw [List.take_succ_eq_append_getElem hll, List.map_append, ee]
    rfl
  · rintro acc M' ⟨i, hi, e, rfl, rfl⟩
    refine ⟨True.intro, ?_⟩
    have him : i = m := by
      rcases Nat.lt_or_ge i m with z | z
      · obtain ⟨j, hj⟩ : ∃ j, m - i = j + 1 := ⟨m - i - 1, by omega⟩
        rw [hj, rngI_cons] at e
        cases e
      · omega
    subst him
    have etake : (lotD ls cs).take i = lotD ls cs := List.take_of_length_le (by unfold lotD; simp; omega)
    rw [etake]
    have fin : ∀ (M3 : Mem) (qn : Nat) (js : List Int) , Kp n M' M3 → Pool M3 n → M3[qn]? = some (.lst (js.map .int)) → qn ≠ n → js.length ≤ 1000 → c_law_asked_s7 ⟨sem T (k + 4), fun _ => ex⟩ ⟨fun _ M' => P .non M', P, fun _ _ => False, fun _ _ => False⟩ [some (.ref n), some (.int (i : Nat)), some (.bl w), o3, some (.ref q), some (.int c), some (.ref ql), some (.ref qd), some (.tup ((lotD ls cs).map lot)), some (.ref qn), o10, o11, o12, o13, o14, o15, o16, o17, o18] M3 := fun M3 qn js kp3 hp3 hj3 hne hjl => s_tail7 (sit.kp kp3 hp3) ch hm hl hn hs hj3 hne hjl go
    walk_at "dl_ev"
    cases w
    · walk_at "dl_ev"
      refine s_numbers (k := k + 2) (m := 6) sit.pool hcp (by omega) (by omega) fun qn js M3 kp3 hp3 hqn3 hj3 hjn hjl => ?_
      walk_at "dl_ev"
      show RgB 0 (if c < 3 then c else 3) ∧ _
      generalize hb : (if c < 3 then c else 3 : Int) = b
      have hb2 : 0 ≤ b ∧ b ≤ 3 := by rw [← hb]; split <;> omega
      refine ⟨⟨by omega, by omega, by omega, by omega, by omega⟩, ?_⟩
      rw [rng_ints]
      have hj4 := get_app (N := [Cell.lst (((List.range (b - 0).toNat).map fun i : Nat => (i : Int)).map D.int)]) hj3
      walk_at "dl_ev"
      generalize hzs : ((List.range b.toNat).map fun j : Nat => (j : Int)) = zs
      have hzl : zs.length ≤ 3 := by rw [← hzs]; simp; omega
      rw [show (400 * if (!false) = true then 1 else 0 : Int) = ((400 : Nat) : Int) from by decide, W.cut_to, ← List.map_take]
      have htl : (zs.take 400).length ≤ 3 := by rw [List.length_take]; omega
      refine W.addL (get_app (get_app hj3)) get_new (by rw [List.length_map, List.length_map]; omega) ?_
      rw [← List.map_append]
      walk_at "dl_ev"
      have ap4 : Ap M3 (M3 ++ [Cell.lst (List.map D.int zs)] ++ [Cell.lst (List.map D.int (List.take 400 zs))] ++ [Cell.lst (List.map D.int (js ++ List.take 400 zs))]) := ⟨_, by rw [List.append_assoc, List.append_assoc]⟩
      refine fin _ _ _ (kp3.trans ap4.kp) (ap4.pool hp3) get_new ?_ (by rw [List.length_append]; omega)
      have := hp3.lt
      simp
      omega
    · walk_at "dl_ev"
      refine s_numbers (k := k + 2) (m := 400) sit.pool hcp (by omega) (by omega) fun qn js M3 kp3 hp3 hqn3 hj3 hjn hjl => ?_
      walk_at "dl_ev"
      show RgB 0 (if c < 3 then c else 3) ∧ _
      generalize hb : (if c < 3 then c else 3 : Int) = b
      have hb2 : 0 ≤ b ∧ b ≤ 3 := by rw [← hb]; split <;> omega
      refine ⟨⟨by omega, by omega, by omega, by omega, by omega⟩, ?_⟩
      rw [rng_ints]
      have hj4 := get_app (N := [Cell.lst (((List.range (b - 0).toNat).map fun i : Nat => (i : Int)).map D.int)]) hj3
      walk_at "dl_ev"
      generalize hzs : ((List.range b.toNat).map fun j : Nat => (j : Int)) = zs
      have hzl : zs.length ≤ 3 := by rw [← hzs]; simp; omega
      rw [show (400 * if (!true) = true then 1 else 0 : Int) = ((0 : Nat) : Int) from by decide, W.cut_to, ← List.map_take]
      have htl : (zs.take 0).length ≤ 3 := by rw [List.length_take]; omega
      refine W.addL (get_app (get_app hj3)) get_new (by rw [List.length_map, List.length_map]; omega) ?_
      rw [← List.map_append]
      walk_at "dl_ev"
      have ap4 : Ap M3 (M3 ++ [Cell.lst (List.map D.int zs)] ++ [Cell.lst (List.map D.int (List.take 0 zs))] ++ [Cell.lst (List.map D.int (js ++ List.take 0 zs))]) := ⟨_, by rw [List.append_assoc, List.append_assoc]⟩
      refine fin _ _ _ (kp3.trans ap4.kp) (ap4.pool hp3) get_new ?_ (by rw [List.length_append]; omega)
      have := hp3.lt
      simp
      omega
end

theorem sumP {a b : List Int} (h : a.Perm b) : a.sum = b.sum := by
  induction h with
  | nil => rfl
  | cons _ _ ih => rw [List.sum_cons, List.sum_cons, ih]
  | swap => simp only [List.sum_cons]; omega
  | trans _ _ i1 i2 => exact i1.trans i2
def QP (ts : List Int) : Prop := (∀ t ∈ ts, 0 ≤ t) ∧ ts.sum = 30 ∧ 5 ∈ ts ∧ 3 ∈ ts ∧ 2 ∈ ts ∧ ts.length ≤ 6
instance (ts : List Int) : Decidable (QP ts) := by unfold QP; infer_instance
section
variable {k n : Nat} {ex : XP} {M : Mem} {P : Po} {w : Bool}
theorem s_asked {m : Nat} (hp : Pool M n) (hm : m ≤ 6) (go : ∀ M', Pool M' n → P (.bl true) M') : sem T (k + 5) 15 ex [.ref n, .int (m : Nat), .bl w] M P := by
  have szl : sizeLine = 16777216 := by decide
  have hln := hp.lt
  refine u15 ?_
  unfold c_law_asked
  walk_at "dl_ev"
  refine W.dec (fun h => ?_) (fun h => ?_)
  · walk_at "dl_ev"
    refine s_take (hp.keep (by simp [List.getElem?_append_left, hln])) (by omega) (log_small (by omega) (by omega)) fun r M1 r1 r2 kp1 hp1 => ?_
    have hA := kp1.get (m := M.length) (c := Cell.lst [D.int 5, D.int 3, D.int 2]) (by simp) (by omega)
    have g1 := kp1.get (m := (M ++ [Cell.lst [D.int 5, D.int 3, D.int 2]]).length) (c := Cell.lst [D.int 20]) (by simp) (by simp; omega)
    have g2 := kp1.get (m := (M ++ [Cell.lst [D.int 5, D.int 3, D.int 2]] ++ [Cell.lst [D.int 20]]).length) (c := Cell.lst [D.int 10, D.int 10]) (by simp) (by simp; omega)
    have g3 := kp1.get (m := (M ++ [Cell.lst [D.int 5, D.int 3, D.int 2]] ++ [Cell.lst [D.int 20]] ++ [Cell.lst [D.int 10, D.int 10]]).length) (c := Cell.lst [D.int 5, D.int 5, D.int 10]) (by simp) (by simp; omega)
    have r012 : r = 0 ∨ r = 1 ∨ r = 2 := by omega
    rcases r012 with rfl | rfl | rfl
    · walk_at "dl_ev"
      rw [show [D.int 5, D.int 3, D.int 2] ++ [D.int 20] = ([5, 3, 2, 20] : List Int).map D.int from rfl]
      have hQ : QP [5, 3, 2, 20] := by decide
      revert hQ
      generalize ([5, 3, 2, 20] : List Int) = ts
      intro hQ
      have hQl := hQ.2.2.2.2.2
      walk_at "dl_ev"
      refine s_mixed (k := k + 2) (hp1.keep (List.getElem?_append_left hp1.lt)) get_new (by have := hp1.lt; omega) (by rw [List.length_map]; omega) fun q zs M2 kp2 hp2 hq2 hz hpm => ?_
      obtain ⟨ys, rfl, hy⟩ := perm_ints hpm
      have hyl := hy.length_eq
      have hqn : q ≠ n := by have := hp1.lt; simp at hq2; omega
      have hyr : ∀ t ∈ ys, 0 ≤ t := fun t ht => (hQ.1 t (hy.mem_iff.mp ht))
      walk_at "dl_ev"
      refine cloop_inv (fun xs acc M' => ∃ (r1 r2 : List Int), ys = r1 ++ r2 ∧ xs = r2.map .int ∧ acc = (r1.map (red 30)).map fr ∧ M' = M2) ?_ ?_ _ _ _ ⟨[], ys, rfl, rfl, rfl, rfl⟩
      · rintro x xs acc M' ⟨r1, r2, e0, e, rfl, rfl⟩
        cases r2 with
        | nil => cases e
        | cons t r2 =>
          obtain ⟨e1, e2⟩ := List.cons.inj e
          subst e1 e2
          refine ⟨hz, fun K hK => ?_⟩
          have ht0 := hyr t (by rw [e0]; simp)
          unfold c_law_asked_e1
          walk_at "dl_ev"
          refine s_fraction (k := k + 2) ht0 (by decide) (by decide) ?_
          exact hK _ _ ⟨r1 ++ [t], r2, by rw [List.append_assoc]; exact e0, rfl, by simp; rfl, rfl⟩
      · rintro acc M' ⟨r1, r2, e0, e, rfl, rfl⟩
        have : r2 = [] := by cases r2 with
          | nil => rfl
          | cons a b => cases e
        subst this
        rw [List.append_nil] at e0
        subst e0
        refine ⟨hz, ?_⟩
        walk_at "dl_ev"
        simp only [List.length_map]
        exact s_tail8 (hp2.keep (List.getElem?_append_left hp2.lt)) get_new (by have := hp2.lt; omega) (ch30 hyr (by rw [← hQ.2.1]; exact sumP hy) (hy.mem_iff.mpr hQ.2.2.1) (hy.mem_iff.mpr hQ.2.2.2.1) (hy.mem_iff.mpr hQ.2.2.2.2.1)) (by omega) go
    · walk_at "dl_ev"
      rw [show [D.int 5, D.int 3, D.int 2] ++ [D.int 10, D.int 10] = ([5, 3, 2, 10, 10] : List Int).map D.int from rfl]
      have hQ : QP [5, 3, 2, 10, 10] := by decide
      revert hQ
      generalize ([5, 3, 2, 10, 10] : List Int) = ts
      intro hQ
      have hQl := hQ.2.2.2.2.2
      walk_at "dl_ev"
      refine s_mixed (k := k + 2) (hp1.keep (List.getElem?_append_left hp1.lt)) get_new (by have := hp1.lt; omega) (by rw [List.length_map]; omega) fun q zs M2 kp2 hp2 hq2 hz hpm => ?_
      obtain ⟨ys, rfl, hy⟩ := perm_ints hpm
      have hyl := hy.length_eq
      have hqn : q ≠ n := by have := hp1.lt; simp at hq2; omega
      have hyr : ∀ t ∈ ys, 0 ≤ t := fun t ht => (hQ.1 t (hy.mem_iff.mp ht))
      walk_at "dl_ev"
      refine cloop_inv (fun xs acc M' => ∃ (r1 r2 : List Int), ys = r1 ++ r2 ∧ xs = r2.map .int ∧ acc = (r1.map (red 30)).map fr ∧ M' = M2) ?_ ?_ _ _ _ ⟨[], ys, rfl, rfl, rfl, rfl⟩
      · rintro x xs acc M' ⟨r1, r2, e0, e, rfl, rfl⟩
        cases r2 with
        | nil => cases e
        | cons t r2 =>
          obtain ⟨e1, e2⟩ := List.cons.inj e
          subst e1 e2
          refine ⟨hz, fun K hK => ?_⟩
          have ht0 := hyr t (by rw [e0]; simp)
          unfold c_law_asked_e1
          walk_at "dl_ev"
          refine s_fraction (k := k + 2) ht0 (by decide) (by decide) ?_
          exact hK _ _ ⟨r1 ++ [t], r2, by rw [List.append_assoc]; exact e0, rfl, by simp; rfl, rfl⟩
      · rintro acc M' ⟨r1, r2, e0, e, rfl, rfl⟩
        have : r2 = [] := by cases r2 with
          | nil => rfl
          | cons a b => cases e
        subst this
        rw [List.append_nil] at e0
        subst e0
        refine ⟨hz, ?_⟩
        walk_at "dl_ev"
        simp only [List.length_map]
        exact s_tail8 (hp2.keep (List.getElem?_append_left hp2.lt)) get_new (by have := hp2.lt; omega) (ch30 hyr (by rw [← hQ.2.1]; exact sumP hy) (hy.mem_iff.mpr hQ.2.2.1) (hy.mem_iff.mpr hQ.2.2.2.1) (hy.mem_iff.mpr hQ.2.2.2.2.1)) (by omega) go
    · walk_at "dl_ev"
      rw [show [D.int 5, D.int 3, D.int 2] ++ [D.int 5, D.int 5, D.int 10] = ([5, 3, 2, 5, 5, 10] : List Int).map D.int from rfl]
      have hQ : QP [5, 3, 2, 5, 5, 10] := by decide
      revert hQ
      generalize ([5, 3, 2, 5, 5, 10] : List Int) = ts
      intro hQ
      have hQl := hQ.2.2.2.2.2
      walk_at "dl_ev"
      refine s_mixed (k := k + 2) (hp1.keep (List.getElem?_append_left hp1.lt)) get_new (by have := hp1.lt; omega) (by rw [List.length_map]; omega) fun q zs M2 kp2 hp2 hq2 hz hpm => ?_
      obtain ⟨ys, rfl, hy⟩ := perm_ints hpm
      have hyl := hy.length_eq
      have hqn : q ≠ n := by have := hp1.lt; simp at hq2; omega
      have hyr : ∀ t ∈ ys, 0 ≤ t := fun t ht => (hQ.1 t (hy.mem_iff.mp ht))
      walk_at "dl_ev"
      refine cloop_inv (fun xs acc M' => ∃ (r1 r2 : List Int), ys = r1 ++ r2 ∧ xs = r2.map .int ∧ acc = (r1.map (red 30)).map fr ∧ M' = M2) ?_ ?_ _ _ _ ⟨[], ys, rfl, rfl, rfl, rfl⟩
      · rintro x xs acc M' ⟨r1, r2, e0, e, rfl, rfl⟩
        cases r2 with
        | nil => cases e
        | cons t r2 =>
          obtain ⟨e1, e2⟩ := List.cons.inj e
          subst e1 e2
          refine ⟨hz, fun K hK => ?_⟩
          have ht0 := hyr t (by rw [e0]; simp)
          unfold c_law_asked_e1
          walk_at "dl_ev"
          refine s_fraction (k := k + 2) ht0 (by decide) (by decide) ?_
          exact hK _ _ ⟨r1 ++ [t], r2, by rw [List.append_assoc]; exact e0, rfl, by simp; rfl, rfl⟩
      · rintro acc M' ⟨r1, r2, e0, e, rfl, rfl⟩
        have : r2 = [] := by cases r2 with
          | nil => rfl
          | cons a b => cases e
        subst this
        rw [List.append_nil] at e0
        subst e0
        refine ⟨hz, ?_⟩
        walk_at "dl_ev"
        simp only [List.length_map]
        exact s_tail8 (hp2.keep (List.getElem?_append_left hp2.lt)) get_new (by have := hp2.lt; omega) (ch30 hyr (by rw [← hQ.2.1]; exact sumP hy) (hy.mem_iff.mpr hQ.2.2.1) (hy.mem_iff.mpr hQ.2.2.2.1) (hy.mem_iff.mpr hQ.2.2.2.2.1)) (by omega) go
  · walk_at "dl_ev"
    refine s_chances (k := k + 1) hp (by omega) hm fun q cs c M1 kp1 hp1 hq1 hch ch => ?_
    walk_at "dl_ev"
    exact s_tail8 hp1 hch (by omega) ch (by omega) go
end

def LL : List (D × (Int × Int)) := [(.tup [.int 0], (1, 2)), (.tup [.int 1], (1, 3)), (.tup [], (1, 6))]
theorem botLL : bot 1 (LL.map Prod.snd) = 6 := by decide
theorem drawsLL : Draws LL [0, 2, 3, 4, 5, 6, 11] [.tup [.int 0], .tup [.int 0], .tup [.int 1], .tup [.int 1], .tup [], .tup [.int 0], .tup []] := by
  unfold Draws
  rw [botLL]
  exact .cons ⟨0, _, by decide, rfl, rfl⟩ (.cons ⟨0, _, by decide, rfl, rfl⟩ (.cons ⟨1, _, by decide, rfl, rfl⟩ (.cons ⟨1, _, by decide, rfl, rfl⟩ (.cons ⟨2, _, by decide, rfl, rfl⟩ (.cons ⟨0, _, by decide, rfl, rfl⟩ (.cons ⟨2, _, by decide, rfl, rfl⟩ .nil))))))
theorem v7 : Val (.tup (([[0], [0], [1], [1], [], [0], []] : List (List Int)).map it)) := .tup _ fun x hx => by
  obtain ⟨l, _, rfl⟩ := List.mem_map.mp hx
  exact val_it l
theorem law_data : ∀ ns, Small ns → sem T 40 16 (fun _ _ _ => False) [.rol (ns.map D.int)] [] fun r _ => r = .bl true := by
  intro ns hs
  have szl : sizeLine = 16777216 := by decide
  refine u16 (n := 39) ?_
  unfold c_law
  walk_at "dl_ev"
  refine s_pool (k := 38) hs.1 fun n M hp => ?_
  walk_at "dl_ev"
  refine s_take (k := 38) hp (by omega) (log_small (by omega) (by omega)) fun r M1 r1 r2 kp1 hp1 => ?_
  walk_at "dl_ev"
  refine ⟨⟨by decide, by decide⟩, ?_⟩
  refine floop_inv (fun xs ρ M' => ∃ (i : Nat) (o3 : Option D), i ≤ 3 ∧ xs = rngI i (3 - i) ∧ ρ = [some (.rol (ns.map .int)), some (.ref n), some (.bl (decide (r = 6))), o3, none] ∧ Pool M' n) ?_ ?_ _ _ _ ⟨0, none, by omega, by rfl, rfl, hp1⟩
  · rintro x xs ρ M' ⟨i, o3, hi, e, rfl, hp'⟩
    obtain ⟨j, hj⟩ : ∃ j, 3 - i = j + 1 := by
      cases hz : 3 - i with
      | zero => rw [hz, rngI_zero] at e; cases e
      | succ j => exact ⟨j, rfl⟩
    rw [hj, rngI_cons] at e
    obtain ⟨e1, e2⟩ := List.cons.inj e
    subst e1 e2
    refine ⟨True.intro, fun K hK => ?_⟩
    have hn2 : ∀ (M2 : Mem), Pool M2 n → K [some (.rol (ns.map .int)), some (.ref n), some (.bl (decide (r = 6))), some (.int (i : Nat)), none] M2 := fun M2 h2 => hK _ _ ⟨i + 1, _, by omega, by rw [show 3 - (i + 1) = j by omega]; rfl, rfl, h2⟩
    unfold c_law_b1
    walk_at "dl_ev"
    refine s_take (k := 38) hp' (by omega) (log_small (by omega) (by omega)) fun r3 M3 r31 r32 kp3 hp3 => ?_
    walk_at "dl_ev"
    obtain ⟨m, hme, hm6⟩ : ∃ m : Nat, ((1 + r3) * if decide ((i : Int) < 2) = true then 1 else 0 : Int) = (m : Nat) ∧ m ≤ 6 := by
      by_cases h2 : (i : Int) < 2
      · exact ⟨(1 + r3).toNat, by rw [if_pos (by simpa using h2)]; omega, by omega⟩
      · exact ⟨0, by rw [if_neg (by simpa using h2)]; simp, by omega⟩
    rw [hme]
    split
    · walk_at "dl_ev"
      refine s_asked (k := 34) hp3 hm6 fun M4 hp4 => ?_
      walk_at "dl_ev"
      exact hn2 _ hp4
    · walk_at "dl_ev"
      refine s_asked (k := 34) hp3 hm6 fun M4 hp4 => ?_
      walk_at "dl_ev"
      exact hn2 _ hp4
  · rintro ρ M' ⟨i, o3, hi, e, rfl, hp'⟩
    refine ⟨True.intro, ?_⟩
    unfold c_law_s2
    walk_at "dl_ev"
    have hlots : Lots LL := ⟨by unfold LL; intro p hp; simp at hp; rcases hp with rfl | rfl | rfl <;> decide, by unfold LL; intro p hp; simp at hp; rcases hp with rfl | rfl | rfl <;> decide, by decide⟩
    refine s_nights (k := 35) (ls := LL) (js := [0, 2, 3, 4, 5, 6, 11]) (ds := [.tup [.int 0], .tup [.int 0], .tup [.int 1], .tup [.int 1], .tup [], .tup [.int 0], .tup []]) hlots ?_ fun M4 ap => ?_
    · exact drawsLL
    walk_at "dl_ev"
    have v7 : Val (D.tup [D.tup [D.int 0], D.tup [D.int 0], D.tup [D.int 1], D.tup [D.int 1], D.tup [], D.tup [D.int 0], D.tup []]) := v7
    refine s_same (k := 38) v7 v7 (by simp [sz, szs]) fun M5 b ap5 hb => ?_
    have : b = true := hb.mpr rfl
    subst this
    walk_at "dl_ev"
    unfold c_law_s1
    walk_at "dl_ev"
    refine s_nights (k := 35) (ls := LL) (js := []) (ds := []) hlots .nil fun M6 ap6 => ?_
    walk_at "dl_ev"
    refine s_same (k := 38) (a := .tup []) (b := .tup []) (val_it []) (val_it []) (by simp [sz, szs]) fun M7 b2 ap7 hb2 => ?_
    have : b2 = true := hb2.mpr rfl
    subst this
    walk_at "dl_ev"
    have bA : bot 1 [(0, 1), (1, 1)] = 1 := by decide
    have bB : bot 1 [(1, 4), (0, 1), (3, 4)] = 4 := by decide
    refine s_taking (k := 36) (cs := [(0, 1), (1, 1)]) (by intro p hp; simp at hp; rcases hp with rfl | rfl <;> decide) (by intro p hp; simp at hp; rcases hp with rfl | rfl <;> decide) fun M8 ap8 => ?_
    rw [bA, show pl 1 (0 % 1) 0 [(0, 1), (1, 1)] = some 1 from by decide]
    show _
    walk_at "dl_ev"
    refine s_taking (k := 36) (cs := [(1, 4), (0, 1), (3, 4)]) (by intro p hp; simp at hp; rcases hp with rfl | rfl | rfl <;> decide) (by intro p hp; simp at hp; rcases hp with rfl | rfl | rfl <;> decide) fun M9 ap9 => ?_
    rw [bB, show pl 4 (5 % 4) 0 [(1, 4), (0, 1), (3, 4)] = some 2 from by decide]
    walk_at "dl_ev"
    refine s_same (k := 38) (a := .tup [.int 1, .int 2]) (b := .tup [.int 1, .int 2]) (val_it [1, 2]) (val_it [1, 2]) (by simp [sz, szs]) fun M10 b3 ap10 hb3 => ?_
    have : b3 = true := hb3.mpr rfl
    subst this
    walk_at "dl_ev"
    try rfl

/-! ### the head -/
def names0 : List PySem.Str := ["__name__", "common_bottom", "dealt_place", "drawn_night", "drawn_nights", "drawn_taking", "_law_pool", "_law_take", "_law_mixed", "_law_gcd", "_law_fraction", "_law_same", "_law_chances", "_law_lots", "_law_dealt", "_law_numbers", "_law_asked"]
def names : List PySem.Str := names0
abbrev Rw : PySem.W.OpenRow := PySem.W.OpenLaw.row PySem.Challenge.rw_watchedbylot_k35_draws
abbrev hk : PySem.W.Hook := hookM 4 G ds
theorem run (w : World) : HandSHeadRun.RunEqI Rw (PySem.W.view Rw.prog [0, 20]) hk (obM 4 G ds) 4000 names w := by
  unfold HandSHeadRun.RunEqI
  kernel_rfl
end DL.Law
open PySem PySem.W PySem.Calls PyProof.Rows in
theorem PySem.Challenge.cw_watchedbylot_k35_draws_holds : PySem.Challenge.rw_watchedbylot_k35_draws.Holds := by
  w_on; o_law
  refine HandSHeadRun.head_imp (r := OpenLaw.row PySem.Challenge.rw_watchedbylot_k35_draws) (q := view (OpenLaw.row PySem.Challenge.rw_watchedbylot_k35_draws).prog [0, 20]) (H := DL.Law.hk) (ob := DL.obM 4 DL.Law.G DL.Law.ds) (M := 4000) (loose := DL.Law.names)
    (d := HandSHeadRun.topDef (OpenLaw.row PySem.Challenge.rw_watchedbylot_k35_draws).prog 20) (kwd := []) (fun s => DL.obM_eq s) DL.Law.run (by kernel_rfl) (by kernel_rfl) (by kernel_rfl) (by rfl) (by first | assumption | decide +kernel) (by decide +kernel) ⟨rfl, rfl, rfl, rfl, rfl, by decide +kernel⟩ ?hw ?hc
  case hw => w_witness2
  case hc => exact DL.walk_M (k := 40) (i := 16) (x := "script") (e := DL.Law.d16) rfl (by kernel_rfl) ⟨rfl, by decide, by decide⟩ DL.Law.tab rfl (by kernel_rfl) rfl DL.Law.law_data

