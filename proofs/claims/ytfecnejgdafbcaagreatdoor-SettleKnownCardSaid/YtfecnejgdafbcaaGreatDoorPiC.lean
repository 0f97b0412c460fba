/- A part of the evaluator of the model's code and of its soundness, for any program. No condition. -/
import Derived.Test.YtfecnejgdafbcaaGreatDoorPiB
namespace Go.Proofs.YtfecnejgdafbcaaGreatDoor.Pi
set_option linter.all false
variable [Gl]
/-! The abstract heap against the world. -/
theorem nbeqF {a b : Nat} (h : a ≠ b) : Nat.beq a b = false := by
  cases e : Nat.beq a b with
  | false => rfl
  | true => exact absurd (Nat.eq_of_beq_eq_true e) h
theorem nbeqT {a b : Nat} (h : a = b) : Nat.beq a b = true := by subst h; simp
theorem T.get_put {α : Type} : ∀ (n : Nat) (t : T α) (k : Nat) (v : α) (k' : Nat), k < 2 ^ n - 1 → (T.put n t k v).get k' = if k' = k then some v else t.get k'
  | 0, t, k, v, k', h => by simp at h
  | n + 1, t, k, v, k', h => by
    have hp : 2 ^ (n + 1) = 2 * 2 ^ n := by rw [Nat.pow_succ, Nat.mul_comm]
    have key : ∀ (l : T α) (x : Option α) (r : T α), ((bif Nat.beq k 0 then T.nd l (some v) r else bif Nat.beq (k % 2) 1 then .nd (T.put n l (k / 2) v) x r else .nd l x (T.put n r (k / 2 - 1) v)) : T α).get k' = if k' = k then some v else (T.nd l x r).get k' := by
      intro l x r
      by_cases h0 : k = 0
      · subst h0
        simp only [show Nat.beq 0 0 = true from rfl, cond_true, T.get]
        by_cases hk : k' = 0
        · subst hk; simp
        · have : Nat.beq k' 0 = false := nbeqF hk
          simp [this, hk]
      · have e0 : Nat.beq k 0 = false := nbeqF h0
        by_cases h1 : k % 2 = 1
        · have e1 : Nat.beq (k % 2) 1 = true := by simpa using h1
          simp only [e0, e1, cond_true, cond_false, T.get]
          by_cases hk : k' = 0
          · subst hk; simp [Ne.symm h0]
          · have e2 : Nat.beq k' 0 = false := nbeqF hk
            simp only [e2, cond_false]
            by_cases hk1 : k' % 2 = 1
            · have e3 : Nat.beq (k' % 2) 1 = true := by simpa using hk1
              simp only [e3, cond_true]
              rw [T.get_put n l (k / 2) v (k' / 2) (by omega)]
              by_cases hkk : k' = k
              · subst hkk; simp
              · rw [if_neg (by omega), if_neg hkk]
            · have e3 : Nat.beq (k' % 2) 1 = false := nbeqF hk1
              simp only [e3, cond_false]
              rw [if_neg (by omega)]
        · have e1 : Nat.beq (k % 2) 1 = false := nbeqF h1
          simp only [e0, e1, cond_false, T.get]
          by_cases hk : k' = 0
          · subst hk; simp [Ne.symm h0]
          · have e2 : Nat.beq k' 0 = false := nbeqF hk
            simp only [e2, cond_false]
            by_cases hk1 : k' % 2 = 1
            · have e3 : Nat.beq (k' % 2) 1 = true := by simpa using hk1
              simp only [e3, cond_true]
              rw [if_neg (by omega)]
            · have e3 : Nat.beq (k' % 2) 1 = false := nbeqF hk1
              simp only [e3, cond_false]
              rw [T.get_put n r (k / 2 - 1) v (k' / 2 - 1) (by omega)]
              by_cases hkk : k' = k
              · subst hkk; simp
              · rw [if_neg (by omega), if_neg hkk]
    cases t with
    | lf =>
      have := key .lf none .lf
      simp only [T.put]
      rw [this]
      have hl : (T.nd (T.lf : T α) none T.lf).get k' = (T.lf : T α).get k' := by
        simp only [T.get]; cases Nat.beq k' 0 <;> cases Nat.beq (k' % 2) 1 <;> rfl
      rw [hl]
    | nd l x r => exact key l x r

theorem idlt (k : Nat) : k < 2 ^ (k + 1) - 1 := by
  have := @Nat.lt_two_pow_self k
  rw [Nat.pow_succ]; omega
theorem Hp.get_set {h h' : Hp} {id : Nat} {b : Blk} (e : h.set id b = some h') : (∀ k, h'.get k = if k = id then some b else h.get k) ∧ h'.nx = h.nx := by
  unfold Hp.set at e
  cases hb : Nat.blt id (id + 1) with
  | false => rw [hb] at e; cases e
  | true =>
    rw [hb] at e
    simp at e
    subst e
    refine ⟨fun k => ?_, rfl⟩
    simp only [Hp.get]
    exact T.get_put (id + 1) h.m id b k (idlt id)
theorem Hp.get_new {h h' : Hp} {id : Nat} {b : Blk} (e : h.new id b = some h') : h.get id = none ∧ (∀ k, h'.get k = if k = id then some b else h.get k) ∧ h'.nx = h.nx := by
  unfold Hp.new at e
  split at e
  · rename_i hn; exact ⟨hn, Hp.get_set e⟩
  · cases e

def Blk.live : Blk → Prop
  | .dead => False
  | _ => True
def DefRep (M : Mem) (μ : Mu) : DF → Deferred → Prop
  | .call f args, d => ∃ (fv : Fn) (first : List PV) (cap : List PV) (vf vc va : List Value), f = .fn fv first cap ∧ (∀ l, fv ≠ .yield l) ∧ d.target = .fn fv vc.toArray ∧ d.args = (vf ++ va).toArray ∧ RepL M μ first vf ∧ RepL M μ cap vc ∧ RepL M μ args va
  | .bi b ats ty args, d => ∃ (cs : Array Bool) (va : List Value), d.target = .builtin b ats ty cs ∧ d.args = va.toArray ∧ RepL M μ args va
  | .col id, d => ∃ r, μ id = some r ∧ d.target = .collected r.b ∧ d.args = #[]
def DefsRep (M : Mem) (μ : Mu) : List DF → List Deferred → Prop
  | [], [] => True
  | a :: l, b :: m => DefRep M μ a b ∧ DefsRep M μ l m
  | _, _ => False
def TmpsRep (M : Mem) (μ : Mu) (t : T PV) (nt : Nat) (tmps : Array Value) : Prop :=
  nt < 1048575 ∧ tmps.size = nt ∧ ∀ k, Rep M μ ((t.get k).getD (.tup [])) (tmps.getD k undef)
def stOf : Nat → LoopState
  | 0 => .ready
  | 1 => .busy
  | 2 => .done
  | _ => .exhausted
def BlkAt (M : Mem) (μ : Mu) (r : Bk) (o : Option Obj) : Blk → Prop
  | .box cs _ => r.base = 0 ∧ ∃ (arr : Array Value) (ty : TypeId), o = some (.cells arr ty (0, 0)) ∧ arr.size = cs.length ∧ (∀ (i : Nat) (v : Value), arr[i]? = some v → v.oneCell' = true) ∧ ∀ (i : Nat) (c : PV) (v : Value), cs[i]? = some c → arr[i]? = some v → Rep M μ c v
  | .row es ex _ => ∃ (arr : Array Value) (ty : TypeId), o = some (.cells arr ty (0, 0)) ∧ r.base + r.cap * r.esz ≤ arr.size ∧ es.length ≤ r.cap ∧ (ex = true → es.length = r.cap) ∧ 0 < r.esz ∧ (∀ (i : Nat) (e : PV), es[i]? = some e → e.cells.length = r.esz) ∧ ∀ (i : Nat) (e : PV) (j : Nat) (c : PV) (v : Value), es[i]? = some e → e.cells[j]? = some c → arr[r.base + i * r.esz + j]? = some v → v.oneCell' = true ∧ Rep M μ c v
  | .mp es => ∃ (ents : Array MapEntry) (clock : Nat), o = some (.map ents clock) ∧ ents.size = es.length ∧ ∀ (i : Nat) (k v : PV) (e : MapEntry), es[i]? = some (k, v) → ents[i]? = some e → Rep M μ k e.key ∧ Rep M μ v e.val
  | .lp st pend nt t ps asg body d => ∃ (l : Loop) (rd : Bk), o = some (.loop l) ∧ l.state = stOf st ∧ st < 4 ∧ l.pending = pend ∧ TmpsRep M μ t nt l.tmps ∧ l.params = ps.toArray ∧ l.assign = asg ∧ l.body = body ∧ μ d = some rd ∧ l.defers = rd.b
  | .df ds => ∃ dd : Option (List Deferred), o = some (.deferred dd) ∧ (match ds, dd with
    | none, none => True
    | some a, some b => DefsRep M μ a b
    | _, _ => False)
  | .dead => True
def SepOK (r : Bk) (a : Addr) : Blk → Prop
  | .box _ fz => fz = true
  | .row es _ fz => fz = true ∧ a.off < r.base + es.length * r.esz
  | _ => True
theorem DefRep.mono {M M' : Mem} {μ μ' : Mu} (hM : MLe M M') (hμ : MuLe μ μ') : ∀ {a : DF} {d : Deferred}, DefRep M μ a d → DefRep M' μ' a d
  | .call _ _, _, ⟨fv, a, b, x, y, z, h1, h2, h3, h4, h5, h6, h7⟩ => ⟨fv, a, b, x, y, z, h1, h2, h3, h4, h5.mono hM hμ, h6.mono hM hμ, h7.mono hM hμ⟩
  | .bi _ _ _ _, _, ⟨cs, va, h1, h2, h3⟩ => ⟨cs, va, h1, h2, h3.mono hM hμ⟩
  | .col _, _, ⟨r, h1, h2, h3⟩ => ⟨r, hμ _ _ h1, h2, h3⟩
theorem DefsRep.mono {M M' : Mem} {μ μ' : Mu} (hM : MLe M M') (hμ : MuLe μ μ') : ∀ {a : List DF} {d : List Deferred}, DefsRep M μ a d → DefsRep M' μ' a d
  | [], [], _ => trivial
  | _ :: _, _ :: _, ⟨h, k⟩ => ⟨h.mono hM hμ, DefsRep.mono hM hμ k⟩
theorem TmpsRep.mono {M M' : Mem} {μ μ' : Mu} (hM : MLe M M') (hμ : MuLe μ μ') {t : T PV} {n : Nat} {a : Array Value} (h : TmpsRep M μ t n a) : TmpsRep M' μ' t n a :=
  ⟨h.1, h.2.1, fun k => (h.2.2 k).mono hM hμ⟩
theorem BlkAt.mono {M M' : Mem} {μ μ' : Mu} (hM : MLe M M') (hμ : MuLe μ μ') {r : Bk} {o : Option Obj} : ∀ {b : Blk}, BlkAt M μ r o b → BlkAt M' μ' r o b
  | .box _ _, ⟨h0, arr, ty, h1, h2, h3, h4⟩ => ⟨h0, arr, ty, h1, h2, h3, fun i c v a b => (h4 i c v a b).mono hM hμ⟩
  | .row _ _ _, ⟨arr, ty, h1, h2, h3, h4, h5, h6, h7⟩ => ⟨arr, ty, h1, h2, h3, h4, h5, h6, fun i e j c v x y z => ⟨(h7 i e j c v x y z).1, (h7 i e j c v x y z).2.mono hM hμ⟩⟩
  | .mp _, ⟨ents, clock, h1, h2, h3⟩ => ⟨ents, clock, h1, h2, fun i k v e x y => ⟨(h3 i k v e x y).1.mono hM hμ, (h3 i k v e x y).2.mono hM hμ⟩⟩
  | .lp _ _ _ _ _ _ _ _, ⟨l, rd, h1, h2, h2', h3, h4, h5, h6, h7, h8, h9⟩ => ⟨l, rd, h1, h2, h2', h3, h4.mono hM hμ, h5, h6, h7, hμ _ _ h8, h9⟩
  | .df ds, ⟨dd, h1, h2⟩ => ⟨dd, h1, by
      cases ds <;> cases dd <;> first | trivial | exact h2.elim | exact DefsRep.mono hM hμ h2⟩
  | .dead, _ => trivial

/-- what the package-level variables hold -/
def GlOK (M : Mem) : Prop := ∀ (g : Nat) (cs : List PV), Gl.g g = some cs → ∃ x : Nat → Value, (∀ (j : Nat) (c : PV), cs[j]? = some c → M ⟨g, j, none⟩ = some (x j)) ∧ (∀ (j : Nat) (c : PV), cs[j]? = some c → (x j).oneCell' = true) ∧ ∀ (j : Nat) (c : PV), cs[j]? = some c → Rep M mu0 c (x j)
theorem GlOK.mono {M M' : Mem} (h : GlOK M) (k : MLe M M') : GlOK M' := fun g cs e => by
  obtain ⟨x, h1, h2, h3⟩ := h g cs e
  exact ⟨x, fun j c a => k _ _ (h1 j c a), h2, fun j c a => (h3 j c a).mono k (MuLe.refl _)⟩
structure Sim (M : Mem) (μ : Mu) (h : Hp) (w : World) : Prop where
  glb : GlOK M
  mem : ∀ (a : Addr) (v : Value), M a = some v → a.spot = none ∧ w.cell? a = some v
  blk : ∀ (id : Nat) (b : Blk), h.get id = some b → ∃ r, μ id = some r ∧ BlkAt M μ r w.heap[r.b]? b
  use : ∀ (id : Nat) (r : Bk), μ id = some r → h.get id ≠ none ∧ r.b < w.heap.size
  inj : ∀ (id id' : Nat) (r r' : Bk) (b b' : Blk), μ id = some r → μ id' = some r' → h.get id = some b → h.get id' = some b' → b.live → b'.live → r.b = r'.b → id = id'
  sep : ∀ (id : Nat) (r : Bk) (b : Blk) (a : Addr) (v : Value), h.get id = some b → μ id = some r → b.live → M a = some v → a.block = r.b → SepOK r a b

structure Grow (M : Mem) (μ : Mu) (w : World) (M' : Mem) (μ' : Mu) (w' : World) : Prop where
  m : MLe M M'
  u : MuLe μ μ'
  only : ∀ (a : Addr) (v : Value), M' a = some v → M a = some v ∨ (∃ id r, μ id = some r ∧ r.b = a.block) ∨ w.heap.size ≤ a.block
  fresh : ∀ (id : Nat) (r : Bk), μ' id = some r → (∃ id0 r0, μ id0 = some r0 ∧ r0.b = r.b) ∨ w.heap.size ≤ r.b
  size : w.heap.size ≤ w'.heap.size
  keep : ∀ b, b < w.heap.size → (∀ id r, μ id = some r → r.b ≠ b) → w'.heap[b]? = w.heap[b]?
  os : w'.os = w.os
  output : w'.output = w.output
  tape : w'.tape = w.tape
  nf : ∀ (b : Nat) (arr : Array Value) (ty : TypeId) (f : Nat × Nat), w'.heap[b]? = some (.cells arr ty f) → f = (0, 0) ∨ ∃ arr0, w.heap[b]? = some (.cells arr0 ty f)
theorem Grow.refl (M : Mem) (μ : Mu) (w : World) : Grow M μ w M μ w :=
  ⟨.refl _, .refl _, fun _ _ h => .inl h, fun id r h => .inl ⟨id, r, h, rfl⟩, Nat.le_refl _, fun _ _ _ => rfl, rfl, rfl, rfl, fun _ arr _ _ h => .inr ⟨arr, h⟩⟩
theorem Grow.trans {M M1 M2 : Mem} {μ μ1 μ2 : Mu} {w w1 w2 : World} (h : Grow M μ w M1 μ1 w1) (k : Grow M1 μ1 w1 M2 μ2 w2) : Grow M μ w M2 μ2 w2 where
  m := h.m.trans k.m
  u := h.u.trans k.u
  only a v hv := by
    rcases k.only a v hv with h1 | ⟨id0, r0, h0, e0⟩ | hl
    · exact h.only a v h1
    · rcases h.fresh id0 r0 h0 with ⟨id1, r1, h1, e1⟩ | hl
      · exact .inr (.inl ⟨id1, r1, h1, e1.trans e0⟩)
      · exact .inr (.inr (e0 ▸ hl))
    · exact .inr (.inr (Nat.le_trans h.size hl))
  fresh id r hr := by
    rcases k.fresh id r hr with ⟨id0, r0, h0, e0⟩ | hl
    · rcases h.fresh id0 r0 h0 with ⟨id1, r1, h1, e1⟩ | hl
      · exact .inl ⟨id1, r1, h1, e1.trans e0⟩
      · exact .inr (e0 ▸ hl)
    · exact .inr (Nat.le_trans h.size hl)
  size := Nat.le_trans h.size k.size
  keep b hb hn := by
    rw [k.keep b (Nat.lt_of_lt_of_le hb h.size) ?_, h.keep b hb hn]
    intro id r hr e
    rcases h.fresh id r hr with ⟨id0, r0, h0, e0⟩ | hl
    · exact hn id0 r0 h0 (e0.trans e)
    · omega
  os := k.os.trans h.os
  output := k.output.trans h.output
  tape := k.tape.trans h.tape
  nf b arr ty f hb := by
    rcases k.nf b arr ty f hb with e | ⟨arr0, h0⟩
    · exact .inl e
    · exact h.nf b arr0 ty f h0

/-- a world that differs in nothing but the count of draws -/
theorem Sim.drawn {M : Mem} {μ : Mu} {h : Hp} {w w' : World} (s : Sim M μ h w) (e : w'.heap = w.heap) : Sim M μ h w' where
  glb := s.glb
  mem a v hm := by
    have := s.mem a v hm
    refine ⟨this.1, ?_⟩
    rw [← this.2]; simp only [World.cell?, e]
  blk id b hb := by rw [e]; exact s.blk id b hb
  use id r hr := by rw [e]; exact s.use id r hr
  inj := s.inj
  sep := s.sep
theorem Grow.drawn {M : Mem} {μ : Mu} {w w' : World} (e : w'.heap = w.heap) (e1 : w'.os = w.os) (e2 : w'.output = w.output) (e3 : w'.tape = w.tape) : Grow M μ w M μ w' :=
  ⟨.refl _, .refl _, fun _ _ h => .inl h, fun id r h => .inl ⟨id, r, h, rfl⟩, by rw [e]; exact Nat.le_refl _, fun _ _ _ => by rw [e], e1, e2, e3, fun _ arr _ _ h => .inr ⟨arr, by rw [← e]; exact h⟩⟩
theorem Sim.nx {M : Mem} {μ : Mu} {h h' : Hp} {w : World} (s : Sim M μ h w) (e : ∀ k, h'.get k = h.get k) : Sim M μ h' w where
  glb := s.glb
  mem := s.mem
  blk id b hb := s.blk id b (by rw [← e]; exact hb)
  use id r hr := by rw [e]; exact s.use id r hr
  inj id id' r r' b b' a1 a2 a3 a4 a5 a6 a7 := s.inj id id' r r' b b' a1 a2 (by rw [← e]; exact a3) (by rw [← e]; exact a4) a5 a6 a7
  sep id r b a v a1 a2 a3 a4 a5 := s.sep id r b a v (by rw [← e]; exact a1) a2 a3 a4 a5

theorem cell?_eq {w : World} {a : Addr} {arr : Array Value} {ty : TypeId} {f : Nat × Nat} (h : w.heap[a.block]? = some (.cells arr ty f)) (hs : a.spot = none) : w.cell? a = arr[a.off]? := by
  simp [World.cell?, h, hs]
theorem cell?_congr {w w' : World} {a : Addr} (h : w'.heap[a.block]? = w.heap[a.block]?) : w'.cell? a = w.cell? a := by
  simp only [World.cell?, h]
theorem Sim.mem_lt {M : Mem} {μ : Mu} {h : Hp} {w : World} (s : Sim M μ h w) {a : Addr} {v : Value} (hm : M a = some v) : a.block < w.heap.size :=
  block_lt_of_cell (s.mem a v hm).2

/-- one block, live before and behind, has turned -/
theorem Sim.update {M : Mem} {μ : Mu} {h h' : Hp} {w w' : World} {id : Nat} {b b' : Blk} {r : Bk} (s : Sim M μ h w)
    (hb : h.get id = some b) (hr : μ id = some r) (hlive : b.live)
    (he : ∀ k, h'.get k = if k = id then some b' else h.get k)
    (hw : ∀ k, k ≠ r.b → w'.heap[k]? = w.heap[k]?) (hsz : w'.heap.size = w.heap.size)
    (hat : BlkAt M μ r w'.heap[r.b]? b')
    (hmem : ∀ (a : Addr) (v : Value), M a = some v → a.block = r.b → w'.cell? a = some v ∧ SepOK r a b') : Sim M μ h' w' where
  glb := s.glb
  mem a v hm := by
    have h1 := s.mem a v hm
    by_cases e : a.block = r.b
    · exact ⟨h1.1, (hmem a v hm e).1⟩
    · exact ⟨h1.1, by rw [cell?_congr (hw _ e)]; exact h1.2⟩
  blk k bk hk := by
    rw [he] at hk
    by_cases e : k = id
    · rw [if_pos e] at hk; cases hk; subst e; exact ⟨r, hr, hat⟩
    · rw [if_neg e] at hk
      obtain ⟨rk, hrk, hatk⟩ := s.blk k bk hk
      refine ⟨rk, hrk, ?_⟩
      by_cases hd : bk.live
      · rw [hw rk.b fun e2 => e (s.inj k id rk r bk b hrk hr hk hb hd hlive e2)]; exact hatk
      · cases bk <;> first | exact absurd trivial hd | trivial
  use k rk hk := by
    have := s.use k rk hk
    refine ⟨?_, by rw [hsz]; exact this.2⟩
    rw [he]; split <;> simp_all
  inj k k' rk rk' bk bk' a1 a2 a3 a4 a5 a6 a7 := by
    rw [he] at a3 a4
    by_cases e : k = id
    · by_cases e' : k' = id
      · exact e.trans e'.symm
      · rw [if_neg e'] at a4
        subst e
        exact s.inj _ _ rk rk' b bk' a1 a2 hb a4 hlive a6 a7
    · rw [if_neg e] at a3
      by_cases e' : k' = id
      · subst e'
        exact s.inj _ _ rk rk' bk b a1 a2 a3 hb a5 hlive a7
      · rw [if_neg e'] at a4; exact s.inj _ _ rk rk' bk bk' a1 a2 a3 a4 a5 a6 a7
  sep k rk bk a v a1 a2 a3 a4 a5 := by
    rw [he] at a1
    by_cases e : k = id
    · rw [if_pos e] at a1; cases a1; subst e
      obtain rfl : r = rk := by rw [hr] at a2; exact Option.some.inj a2
      exact (hmem a v a4 a5).2
    · rw [if_neg e] at a1; exact s.sep k rk bk a v a1 a2 a3 a4 a5
theorem Grow.update {M : Mem} {μ : Mu} {w w' : World} {id : Nat} {r : Bk} (hr : μ id = some r)
    (hw : ∀ k, k ≠ r.b → w'.heap[k]? = w.heap[k]?) (hsz : w'.heap.size = w.heap.size) (e1 : w'.os = w.os) (e2 : w'.output = w.output) (e3 : w'.tape = w.tape) (hnf : ∀ arr ty f, w'.heap[r.b]? = some (.cells arr ty f) → f = (0, 0)) : Grow M μ w M μ w' :=
  ⟨.refl _, .refl _, fun _ _ h => .inl h, fun id r h => .inl ⟨id, r, h, rfl⟩, by omega, fun b _ hn => hw b fun e => hn id r hr e.symm, e1, e2, e3, fun b arr ty f h => by
    by_cases e : b = r.b
    · subst e; exact .inl (hnf arr ty f h)
    · exact .inr ⟨arr, by rw [← hw b e]; exact h⟩⟩

def upd (μ : Mu) (id : Nat) (r : Bk) : Mu := fun k => if k = id then some r else μ k
theorem upd_le {μ : Mu} {id : Nat} {r : Bk} (h : μ id = none) : MuLe μ (upd μ id r) := fun k x hk => by
  unfold upd; split
  · rename_i e; subst e; rw [h] at hk; cases hk
  · exact hk
/-- a new block -/
theorem Sim.fresh {M : Mem} {μ : Mu} {h h' : Hp} {w w' : World} {id : Nat} {b : Blk} {r : Bk} {o : Obj} (s : Sim M μ h w)
    (hn : h.get id = none) (he : ∀ k, h'.get k = if k = id then some b else h.get k) (hw : w'.heap = w.heap.push o) (hrb : r.b = w.heap.size)
    (hat : BlkAt M (upd μ id r) r (some o) b) : Sim M (upd μ id r) h' w' ∧ μ id = none := by
  have hμ : μ id = none := by
    cases hm : μ id with
    | none => rfl
    | some x => exact absurd hn (s.use id x hm).1
  have hle := upd_le (r := r) hμ
  have hold : ∀ k, k < w.heap.size → w'.heap[k]? = w.heap[k]? := fun k hk => by rw [hw, Array.getElem?_push, if_neg (by omega)]
  have hnew : w'.heap[r.b]? = some o := by rw [hw, hrb]; simp
  have hsz : w'.heap.size = w.heap.size + 1 := by rw [hw]; simp
  have hup : ∀ k x, upd μ id r k = some x → (k = id ∧ x = r) ∨ (k ≠ id ∧ μ k = some x) := by
    intro k x hk
    unfold upd at hk
    by_cases e : k = id
    · rw [if_pos e] at hk; exact .inl ⟨e, (Option.some.inj hk).symm⟩
    · rw [if_neg e] at hk; exact .inr ⟨e, hk⟩
  refine ⟨?_, hμ⟩
  constructor
  · exact s.glb
  · intro a v hm
    have h1 := s.mem a v hm
    exact ⟨h1.1, by rw [cell?_congr (hold _ (s.mem_lt hm))]; exact h1.2⟩
  · intro k bk hk
    rw [he] at hk
    by_cases e : k = id
    · rw [if_pos e] at hk; cases hk; exact ⟨r, by simp [upd, e], by rw [hnew]; exact hat⟩
    · rw [if_neg e] at hk
      obtain ⟨rk, hrk, hatk⟩ := s.blk k bk hk
      exact ⟨rk, hle _ _ hrk, by rw [hold _ (s.use k rk hrk).2]; exact hatk.mono (.refl _) hle⟩
  · intro k rk hk
    rcases hup k rk hk with ⟨e, rfl⟩ | ⟨e, hk⟩
    · exact ⟨by rw [he, if_pos e]; simp, by omega⟩
    · have := s.use k rk hk
      exact ⟨by rw [he, if_neg e]; exact this.1, by omega⟩
  · intro k k' rk rk' bk bk' a1 a2 a3 a4 a5 a6 a7
    rw [he] at a3 a4
    rcases hup k rk a1 with ⟨e, hx⟩ | ⟨e, a1⟩
    · rcases hup k' rk' a2 with ⟨e', hx'⟩ | ⟨e', a2⟩
      · exact e.trans e'.symm
      · have := (s.use k' rk' a2).2; rw [← a7, hx] at this; omega
    · rcases hup k' rk' a2 with ⟨e', hx'⟩ | ⟨e', a2⟩
      · have := (s.use k rk a1).2; rw [a7, hx'] at this; omega
      · rw [if_neg e] at a3; rw [if_neg e'] at a4; exact s.inj k k' rk rk' bk bk' a1 a2 a3 a4 a5 a6 a7
  · intro k rk bk a v a1 a2 a3 a4 a5
    rw [he] at a1
    rcases hup k rk a2 with ⟨e, hx⟩ | ⟨e, a2⟩
    · have := s.mem_lt a4; rw [a5, hx] at this; omega
    · rw [if_neg e] at a1; exact s.sep k rk bk a v a1 a2 a3 a4 a5
theorem Grow.newBlk {M : Mem} {μ : Mu} {w w' : World} {id : Nat} {r : Bk} {o : Obj} (hμ : μ id = none) (hw : w'.heap = w.heap.push o) (hrb : r.b = w.heap.size)
    (e1 : w'.os = w.os) (e2 : w'.output = w.output) (e3 : w'.tape = w.tape) (hnf : ∀ arr ty f, o = .cells arr ty f → f = (0, 0)) : Grow M μ w M (upd μ id r) w' where
  m := .refl _
  u := upd_le hμ
  only _ _ h := .inl h
  fresh k x hk := by
    unfold upd at hk
    by_cases e : k = id
    · rw [if_pos e] at hk; cases hk; exact .inr (by omega)
    · rw [if_neg e] at hk; exact .inl ⟨k, x, hk, rfl⟩
  size := by rw [hw]; simp
  keep b hb _ := by rw [hw, Array.getElem?_push, if_neg (by omega)]
  os := e1
  output := e2
  tape := e3
  nf b arr ty f h := by
    rw [hw, Array.getElem?_push] at h
    split at h
    · exact .inl (hnf arr ty f (Option.some.inj h))
    · exact .inr ⟨arr, h⟩

/-- new data that nobody will write -/
def memAdd (M : Mem) (b : Nat) (arr : Array Value) : Mem := fun a => if a.block = b then (if a.spot = none then arr[a.off]? else none) else M a
theorem Sim.data {M : Mem} {μ : Mu} {h : Hp} {w w' : World} {arr : Array Value} {ty : TypeId} (s : Sim M μ h w) (hw : w'.heap = w.heap.push (.cells arr ty (0, 0))) :
    Sim (memAdd M w.heap.size arr) μ h w' ∧ MLe M (memAdd M w.heap.size arr) := by
  have hold : ∀ k, k < w.heap.size → w'.heap[k]? = w.heap[k]? := fun k hk => by rw [hw, Array.getElem?_push, if_neg (by omega)]
  have hnew : w'.heap[w.heap.size]? = some (.cells arr ty (0, 0)) := by rw [hw]; simp
  have hle : MLe M (memAdd M w.heap.size arr) := fun a v hm => by
    unfold memAdd; rw [if_neg (by have := s.mem_lt hm; omega)]; exact hm
  refine ⟨?_, hle⟩
  constructor
  · exact s.glb.mono hle
  · intro a v hm
    unfold memAdd at hm
    by_cases e : a.block = w.heap.size
    · rw [if_pos e] at hm
      by_cases hs : a.spot = none
      · rw [if_pos hs] at hm; exact ⟨hs, by rw [cell?_eq (by rw [e]; exact hnew) hs]; exact hm⟩
      · rw [if_neg hs] at hm; cases hm
    · rw [if_neg e] at hm
      have h1 := s.mem a v hm
      exact ⟨h1.1, by rw [cell?_congr (hold _ (s.mem_lt hm))]; exact h1.2⟩
  · intro k bk hk
    obtain ⟨rk, hrk, hatk⟩ := s.blk k bk hk
    exact ⟨rk, hrk, by rw [hold _ (s.use k rk hrk).2]; exact hatk.mono hle (.refl _)⟩
  · intro k rk hk
    have := s.use k rk hk
    exact ⟨this.1, by rw [hw]; simp; omega⟩
  · exact s.inj
  · intro k rk bk a v a1 a2 a3 a4 a5
    unfold memAdd at a4
    rw [if_neg (by rw [a5]; have := (s.use k rk a2).2; omega)] at a4
    exact s.sep k rk bk a v a1 a2 a3 a4 a5
theorem Grow.data {M : Mem} {μ : Mu} {w w' : World} {o : Obj} {arr : Array Value} (hM : MLe M (memAdd M w.heap.size arr)) (hw : w'.heap = w.heap.push o) (e1 : w'.os = w.os) (e2 : w'.output = w.output) (e3 : w'.tape = w.tape) (hnf : ∀ arr ty f, o = .cells arr ty f → f = (0, 0)) : Grow M μ w (memAdd M w.heap.size arr) μ w' :=
  ⟨hM, .refl _, fun a v h => by
      unfold memAdd at h
      split at h
      · exact .inr (.inr (by omega))
      · exact .inl h, fun id r h => .inl ⟨id, r, h, rfl⟩, by rw [hw]; simp, fun b hb _ => by rw [hw, Array.getElem?_push, if_neg (by omega)], e1, e2, e3, fun b arr ty f h => by
        rw [hw, Array.getElem?_push] at h
        split at h
        · exact .inl (hnf arr ty f (Option.some.inj h))
        · exact .inr ⟨arr, h⟩⟩
end Go.Proofs.YtfecnejgdafbcaaGreatDoor.Pi
