/- A part of the evaluator of the model's code and of its soundness, for any program. No condition. -/
import Derived.Test.YtfecnejgdafbcaaGreatDoorPiA
import Derived.WalkKit
namespace Go.Proofs.YtfecnejgdafbcaaGreatDoor.Pi
set_option linter.all false
variable [Gl]
/-! What plain values stand for in memory. -/
abbrev Mem := Addr → Option Value
structure Bk where
  b : Nat
  base : Nat
  esz : Nat
  cap : Nat
abbrev Mu := Nat → Option Bk
def mu0 : Mu := fun _ => none

inductive Rep (M : Mem) : Mu → PV → Value → Prop
  | bool (μ : Mu) (b : Bool) : Rep M μ (.bool b) (.bool b)
  | int (μ : Mu) (k : IntKind) (n : Int) : Rep M μ (.int k n) (.int k n)
  | str (μ : Mu) (s : ByteArray) : Rep M μ (.str s.data.toList) (.string s)
  | nilp (μ : Mu) : Rep M μ .nilp (.pointer none)
  | nils (μ : Mu) : Rep M μ .nils (.slice none 0 0)
  | nilm (μ : Mu) : Rep M μ .nilm (.map none)
  | nilf (μ : Mu) : Rep M μ .nilf .nilFunc
  | nili (μ : Mu) : Rep M μ .nili .nilIface
  | agg (μ : Mu) (cs : List PV) (vs : Array Value) (hl : cs.length = vs.size)
      (h1 : ∀ (i : Nat) (v : Value), vs[i]? = some v → v.oneCell' = true)
      (h : ∀ (i : Nat) (c : PV) (v : Value), cs[i]? = some c → vs[i]? = some v → Rep M μ c v) : Rep M μ (.agg cs) (.agg vs)
  | tup (μ : Mu) (cs : List PV) (vs : Array Value) (hl : cs.length = vs.size)
      (h : ∀ (i : Nat) (c : PV) (v : Value), cs[i]? = some c → vs[i]? = some v → Rep M μ c v) : Rep M μ (.tup cs) (.tuple vs)
  | lst0 (μ : Mu) (full : Bool) (a : Addr) (cap : Nat) (hf : full = true → cap = 0) : Rep M μ (.lst full []) (.slice (some a) 0 cap)
  | lst (μ : Mu) (full : Bool) (es : List PV) (b off esz cap : Nat) (x : Nat → Nat → Value) (hf : full = true → cap = es.length) (hc : es.length ≤ cap)
      (hs : ∀ (i : Nat) (e : PV), es[i]? = some e → e.cells.length = esz)
      (hm : ∀ (i : Nat) (e : PV) (j : Nat) (c : PV), es[i]? = some e → e.cells[j]? = some c → M ⟨b, off + i * esz + j, none⟩ = some (x i j))
      (h1 : ∀ (i : Nat) (e : PV) (j : Nat) (c : PV), es[i]? = some e → e.cells[j]? = some c → (x i j).oneCell' = true)
      (h : ∀ (i : Nat) (e : PV) (j : Nat) (c : PV), es[i]? = some e → e.cells[j]? = some c → Rep M mu0 c (x i j)) : Rep M μ (.lst full es) (.slice (some ⟨b, off, none⟩) es.length cap)
  | own (μ : Mu) (id off len : Nat) (r : Bk) (hr : μ id = some r) (hc : off + len ≤ r.cap) : Rep M μ (.own id off len) (.slice (some ⟨r.b, r.base + off * r.esz, none⟩) len (r.cap - off))
  | ptr (μ : Mu) (id off : Nat) (r : Bk) (hr : μ id = some r) : Rep M μ (.ptr id off) (.pointer (some ⟨r.b, r.base + off, none⟩))
  | ept (μ : Mu) (id i off : Nat) (r : Bk) (hr : μ id = some r) : Rep M μ (.ept id i off) (.pointer (some ⟨r.b, r.base + i * r.esz + off, none⟩))
  | view (μ : Mu) (cs : List PV) (b off : Nat) (x : Nat → Value)
      (hm : ∀ (j : Nat) (c : PV), cs[j]? = some c → M ⟨b, off + j, none⟩ = some (x j))
      (h1 : ∀ (j : Nat) (c : PV), cs[j]? = some c → (x j).oneCell' = true)
      (h : ∀ (j : Nat) (c : PV), cs[j]? = some c → Rep M mu0 c (x j)) : Rep M μ (.view cs) (.pointer (some ⟨b, off, none⟩))
  | fn (μ : Mu) (f : Fn) (a b : List PV) (va vb : Array Value) (hf : ∀ l, f ≠ .yield l) (hla : a.length = va.size) (hlb : b.length = vb.size)
      (ha : ∀ (i : Nat) (c : PV) (v : Value), a[i]? = some c → va[i]? = some v → Rep M μ c v)
      (hb : ∀ (i : Nat) (c : PV) (v : Value), b[i]? = some c → vb[i]? = some v → Rep M μ c v) : Rep M μ (.fn f a b) (.func f va vb)
  | yl (μ : Mu) (id : Nat) (r : Bk) (hr : μ id = some r) : Rep M μ (.yl id) (.func (.yield r.b) #[] #[])
  | ifc (μ : Mu) (t : TypeId) (p : PV) (v : Value) (h : Rep M μ p v) : Rep M μ (.ifc t p) (.iface t v)
  | mp (μ : Mu) (id : Nat) (r : Bk) (hr : μ id = some r) : Rep M μ (.mp id) (.map (some r.b))
  | gk (μ : Mu) (n : Nat) (t : TypeId) (a : Addr) (h : M ⟨n, 0, none⟩ = some (.iface t (.pointer (some a)))) : Rep M μ (.gk n) (.pointer (some a))
  | adr (μ : Mu) (b off : Nat) : Rep M μ (.adr b off) (.pointer (some ⟨b, off, none⟩))

theorem Rep.lst0' {M : Mem} {μ : Mu} {full : Bool} {a : Option Addr} {cap : Nat} (ha : a ≠ none) (hf : full = true → cap = 0) : Rep M μ (.lst full []) (.slice a 0 cap) := by
  cases a with
  | none => exact absurd rfl ha
  | some a => exact .lst0 _ _ _ _ hf
def MLe (M M' : Mem) : Prop := ∀ a v, M a = some v → M' a = some v
def MuLe (μ μ' : Mu) : Prop := ∀ id r, μ id = some r → μ' id = some r
theorem MLe.refl (M : Mem) : MLe M M := fun _ _ h => h
theorem MLe.trans {A B C : Mem} (h : MLe A B) (k : MLe B C) : MLe A C := fun a v x => k a v (h a v x)
theorem MuLe.refl (M : Mu) : MuLe M M := fun _ _ h => h
theorem MuLe.trans {A B C : Mu} (h : MuLe A B) (k : MuLe B C) : MuLe A C := fun a v x => k a v (h a v x)
theorem MuLe.mu0 (μ : Mu) : MuLe mu0 μ := fun _ _ h => by simp [Pi.mu0] at h

theorem Rep.mono {M M' : Mem} {μ : Mu} {p : PV} {v : Value} (h : Rep M μ p v) (hM : MLe M M') : ∀ {μ' : Mu}, MuLe μ μ' → Rep M' μ' p v := by
  induction h with
  | bool | int | str | nilp | nils | nilm | nilf | nili => intros; constructor
  | agg μ cs vs hl h1 _ ih => intro μ' hμ; exact .agg _ _ _ hl h1 fun i c v a b => ih i c v a b hμ
  | tup μ cs vs hl _ ih => intro μ' hμ; exact .tup _ _ _ hl fun i c v a b => ih i c v a b hμ
  | lst0 μ full a cap hf => intro μ' _; exact .lst0 _ _ _ _ hf
  | lst μ full es b off esz cap x hf hc hs hm h1 _ ih => intro μ' _; exact .lst _ _ _ _ _ esz _ x hf hc hs (fun i e j c a k => hM _ _ (hm i e j c a k)) h1 fun i e j c a k => ih i e j c a k (MuLe.refl _)
  | own μ id off len r hr hc => intro μ' hμ; exact .own _ _ _ _ r (hμ _ _ hr) hc
  | ptr μ id off r hr => intro μ' hμ; exact .ptr _ _ _ r (hμ _ _ hr)
  | ept μ id i off r hr => intro μ' hμ; exact .ept _ _ _ _ r (hμ _ _ hr)
  | view μ cs b off x hm h1 _ ih => intro μ' _; exact .view _ _ _ _ x (fun j c a => hM _ _ (hm j c a)) h1 fun j c a => ih j c a (MuLe.refl _)
  | fn μ f a b va vb hf hla hlb _ _ iha ihb => intro μ' hμ; exact .fn _ _ _ _ _ _ hf hla hlb (fun i c v x y => iha i c v x y hμ) (fun i c v x y => ihb i c v x y hμ)
  | yl μ id r hr => intro μ' hμ; exact .yl _ _ r (hμ _ _ hr)
  | ifc μ t p v _ ih => intro μ' hμ; exact .ifc _ _ _ _ (ih hμ)
  | mp μ id r hr => intro μ' hμ; exact .mp _ _ r (hμ _ _ hr)
  | gk μ n t a h => intro μ' _; exact .gk _ _ t a (hM _ _ h)
  | adr μ b off => intro μ' _; exact .adr _ _ _

/-- lists of values -/
def RepL (M : Mem) (μ : Mu) (ps : List PV) (vs : List Value) : Prop :=
  ps.length = vs.length ∧ ∀ (i : Nat) (p : PV) (v : Value), ps[i]? = some p → vs[i]? = some v → Rep M μ p v
theorem RepL.nil (M : Mem) (μ : Mu) : RepL M μ [] [] := ⟨rfl, fun i p v h => by simp at h⟩
theorem RepL.cons {M : Mem} {μ : Mu} {p : PV} {v : Value} {ps : List PV} {vs : List Value} (h : Rep M μ p v) (t : RepL M μ ps vs) : RepL M μ (p :: ps) (v :: vs) := by
  refine ⟨by simp [t.1], fun i q x hq hx => ?_⟩
  cases i with
  | zero => simp at hq hx; subst hq; subst hx; exact h
  | succ i => simp at hq hx; exact t.2 i q x hq hx
theorem RepL.mono {M M' : Mem} {μ μ' : Mu} {ps : List PV} {vs : List Value} (h : RepL M μ ps vs) (hM : MLe M M') (hμ : MuLe μ μ') : RepL M' μ' ps vs :=
  ⟨h.1, fun i p v a b => (h.2 i p v a b).mono hM hμ⟩
theorem RepL.append {M : Mem} {μ : Mu} {ps qs : List PV} {vs ws : List Value} (h : RepL M μ ps vs) (k : RepL M μ qs ws) : RepL M μ (ps ++ qs) (vs ++ ws) := by
  refine ⟨by simp [h.1, k.1], fun i p v hp hv => ?_⟩
  rw [List.getElem?_append] at hp hv
  by_cases hi : i < ps.length
  · rw [if_pos hi] at hp; rw [if_pos (h.1 ▸ hi)] at hv; exact h.2 i p v hp hv
  · rw [if_neg hi] at hp; rw [if_neg (h.1 ▸ hi)] at hv; rw [← h.1] at hv; exact k.2 _ p v hp hv
theorem RepL.get {M : Mem} {μ : Mu} {ps : List PV} {vs : List Value} (h : RepL M μ ps vs) {i : Nat} {p : PV} (hp : ps[i]? = some p) : ∃ v, vs[i]? = some v ∧ Rep M μ p v := by
  have hi : i < vs.length := by rw [← h.1]; exact (List.getElem?_eq_some_iff.1 hp).1
  exact ⟨vs[i], List.getElem?_eq_getElem hi, h.2 i p _ hp (List.getElem?_eq_getElem hi)⟩
theorem RepL.cons_inv {M : Mem} {μ : Mu} {p : PV} {ps : List PV} {vs : List Value} (h : RepL M μ (p :: ps) vs) : ∃ v ws, vs = v :: ws ∧ Rep M μ p v ∧ RepL M μ ps ws := by
  cases vs with
  | nil => exact absurd h.1 (by simp)
  | cons v ws => exact ⟨v, ws, rfl, h.2 0 p v rfl rfl, by simpa using h.1, fun i q x hq hx => h.2 (i + 1) q x (by simpa using hq) (by simpa using hx)⟩
theorem RepL.nil_inv {M : Mem} {μ : Mu} {vs : List Value} (h : RepL M μ [] vs) : vs = [] := by
  cases vs with
  | nil => rfl
  | cons v ws => exact absurd h.1 (by simp)
theorem RepL.drop {M : Mem} {μ : Mu} {ps : List PV} {vs : List Value} (h : RepL M μ ps vs) (n : Nat) : RepL M μ (ps.drop n) (vs.drop n) :=
  ⟨by simp [h.1], fun i p v hp hv => h.2 (n + i) p v (by simpa using hp) (by simpa using hv)⟩
theorem RepL.take {M : Mem} {μ : Mu} {ps : List PV} {vs : List Value} (h : RepL M μ ps vs) (n : Nat) : RepL M μ (ps.take n) (vs.take n) := by
  refine ⟨by simp [h.1], fun i p v hp hv => ?_⟩
  rw [List.getElem?_take] at hp hv
  by_cases hi : i < n
  · rw [if_pos hi] at hp hv; exact h.2 i p v hp hv
  · rw [if_neg hi] at hp; cases hp

/-- the cells of a value -/
theorem Rep.cells {M : Mem} {μ : Mu} {p : PV} {v : Value} (h : Rep M μ p v) (hp : ∀ cs, p ≠ .tup cs) :
    RepL M μ p.cells v.cells.toList ∧ ∀ (i : Nat) (x : Value), v.cells[i]? = some x → x.oneCell' = true := by
  have one : ∀ (q : PV) (x : Value), Rep M μ q x → x.oneCell' = true → q.cells = [q] → x.cells = #[x] → RepL M μ q.cells x.cells.toList ∧ ∀ (i : Nat) (y : Value), x.cells[i]? = some y → y.oneCell' = true := by
    intro q x hq h1 hc hv
    rw [hc, hv]
    refine ⟨RepL.cons hq (RepL.nil _ _), fun i y hy => ?_⟩
    cases i with
    | zero => simp at hy; exact hy ▸ h1
    | succ i => simp at hy
  cases h with
  | agg _ cs vs hl h1 h => exact ⟨⟨by simpa [PV.cells, Value.cells] using hl, fun i c x hc hx => h i c x hc (by simpa [Value.cells] using hx)⟩, fun i x hx => h1 i x hx⟩
  | tup _ cs vs hl h => exact absurd rfl (hp cs)
  | lst0 _ full a cap hf => exact one _ _ (.lst0 _ _ _ _ hf) rfl rfl rfl
  | lst _ full es b off esz cap x hf hc hs hm h1 h => exact one _ _ (.lst _ _ _ _ _ esz _ x hf hc hs hm h1 h) rfl rfl rfl
  | own _ id off len r hr hc => exact one _ _ (.own _ _ _ _ r hr hc) rfl rfl rfl
  | ptr _ id off r hr => exact one _ _ (.ptr _ _ _ r hr) rfl rfl rfl
  | ept _ id i off r hr => exact one _ _ (.ept _ _ _ _ r hr) rfl rfl rfl
  | view _ cs b off x hm h1 h => exact one _ _ (.view _ _ _ _ x hm h1 h) rfl rfl rfl
  | fn _ f a b va vb hf hla hlb ha hb => exact one _ _ (.fn _ _ _ _ _ _ hf hla hlb ha hb) rfl rfl rfl
  | yl _ id r hr => exact one _ _ (.yl _ _ r hr) rfl rfl rfl
  | ifc _ t p v h => exact one _ _ (.ifc _ _ _ _ h) rfl rfl rfl
  | mp _ id r hr => exact one _ _ (.mp _ _ r hr) rfl rfl rfl
  | gk _ n t a h => exact one _ _ (.gk _ _ t a h) rfl rfl rfl
  | adr _ b off => exact one _ _ (.adr _ b off) rfl rfl rfl
  | bool _ b => exact one _ _ (.bool _ b) rfl rfl rfl
  | int _ k n => exact one _ _ (.int _ k n) rfl rfl rfl
  | str _ s => exact one _ _ (.str _ s) rfl rfl rfl
  | nilp _ => exact one _ _ (.nilp _) rfl rfl rfl
  | nils _ => exact one _ _ (.nils _) rfl rfl rfl
  | nilm _ => exact one _ _ (.nilm _) rfl rfl rfl
  | nilf _ => exact one _ _ (.nilf _) rfl rfl rfl
  | nili _ => exact one _ _ (.nili _) rfl rfl rfl

/-! ### Tables -/
section tables
variable {P : Program}
theorem tsize_ok {t : TypeId} {n : Nat} (h : tsize P t = some n) (w : World) : (sizeOf t).run P w = .ok n w := by
  unfold tsize at h
  cases hi : P.info? t with
  | none => rw [hi] at h; cases h
  | some i => rw [hi] at h; simp at h; simp [sizeOf, typeInfo, hi, h]
theorem tagg_ok {t : TypeId} {b : Bool} (h : tagg P t = some b) (w : World) : (isAgg t).run P w = .ok b w := by
  unfold tagg at h
  split at h <;> simp_all [isAgg, underlying] <;> (subst h; split <;> simp_all)
theorem und_ok {t : TypeId} {d : TypeDesc} (h : P.underlying t = some d) (w : World) : (underlying t).run P w = .ok d w := by
  simp [underlying, h]
theorem info_ok {t : TypeId} {d : TypeInfo} (h : P.info? t = some d) (w : World) : (typeInfo t).run P w = .ok d w := by
  simp [typeInfo, h]
theorem cellOf_ok {v : Value} {p : PV} (h : cellOf v = some p) (M : Mem) (μ : Mu) : Rep M μ p v ∧ v.oneCell' = true ∧ (∀ cs, p ≠ .tup cs) := by
  unfold cellOf at h
  split at h <;> first
    | (cases h; exact ⟨by constructor, rfl, by intro cs hc; cases hc⟩)
    | (split at h
       · rename_i hc
         cases h
         simp at hc
         obtain ⟨rfl, rfl⟩ := hc
         exact ⟨.fn _ _ [] [] #[] #[] (by intro l hl; cases hl) rfl rfl (fun i c v h => by simp at h) (fun i c v h => by simp at h), rfl, by intro cs hc; cases hc⟩
       · cases h)
    | cases h
theorem cellsOf_ok : ∀ {vs : List Value} {ps : List PV}, cellsOf vs = some ps → ∀ (M : Mem) (μ : Mu), RepL M μ ps vs ∧ ∀ v ∈ vs, v.oneCell' = true
  | [], ps, h, M, μ => by cases h; exact ⟨RepL.nil _ _, by simp⟩
  | v :: vs, ps, h, M, μ => by
    unfold cellsOf at h
    split at h
    · rename_i p q hp hq
      cases h
      have h1 := cellOf_ok hp M μ
      have h2 := cellsOf_ok hq M μ
      refine ⟨RepL.cons h1.1 h2.1, ?_⟩
      intro x hx
      rcases List.mem_cons.1 hx with rfl | hx
      · exact h1.2.1
      · exact h2.2 x hx
    · cases h
theorem ofVal_ok {v : Value} {p : PV} (h : ofVal v = some p) (M : Mem) (μ : Mu) : Rep M μ p v := by
  unfold ofVal at h
  split at h
  · rename_i cs
    cases hc : cellsOf cs.toList with
    | none => rw [hc] at h; cases h
    | some ps =>
      rw [hc] at h; cases h
      have := cellsOf_ok hc M μ
      refine .agg _ _ _ (by simpa using this.1.1) (fun i v hv => this.2 v ?_) (fun i c v hc hv => this.1.2 i c v hc (by simpa using hv))
      exact Array.mem_toList_iff.2 (Array.mem_of_getElem? hv)
  · rename_i vs
    cases he : vs.isEmpty with
    | false => rw [he] at h; cases h
    | true => rw [he] at h; cases h; simp at he; subst he; exact .tup _ _ _ rfl (fun i c v h => by simp at h)
  · rename_i t v
    split at h
    · rename_i p hp; cases h; exact .ifc _ _ _ _ (cellOf_ok hp M μ).1
    · cases h
  · exact (cellOf_ok h M μ).1
theorem zeroCells_ok {t : TypeId} {cs : List PV} (h : zeroCells P t = some cs) (M : Mem) (μ : Mu) (w : World) :
    ∃ z i, P.info? t = some i ∧ i.zero = some z ∧ (zeroValue t).run P w = .ok z w ∧ RepL M μ cs z.cells.toList ∧ ∀ v ∈ z.cells.toList, v.oneCell' = true := by
  unfold zeroCells at h
  split at h
  · rename_i i hi
    split at h
    · rename_i z hz
      have := cellsOf_ok h M μ
      exact ⟨z, i, hi, hz, by simp [zeroValue, typeInfo, hi, hz], this⟩
    · cases h
  · cases h
/-- the value of a type, out of cells -/
theorem part_ok {t : TypeId} {cs : List PV} {p : PV} (h : Pi.part P t cs = some p) {M : Mem} {μ : Mu} {vs : Array Value} {off : Nat}
    (hl : RepL M μ cs (vs.toList.drop off)) (h1 : ∀ (i : Nat) (v : Value), vs[i]? = some v → v.oneCell' = true) (w : World) :
    ∃ v, (Go.part t vs off).run P w = .ok v w ∧ Rep M μ p v ∧ (∀ cs, p ≠ .tup cs ∨ True) := by
  unfold Pi.part at h
  split at h
  · rename_i n hag hsz
    cases hb : Nat.ble n cs.length with
    | false => rw [hb] at h; cases h
    | true =>
      rw [hb] at h; cases h
      have hn : n ≤ cs.length := Nat.le_of_ble_eq_true hb
      refine ⟨.agg (vs.extract off (off + n)), ?_, ?_, fun _ => .inr trivial⟩
      · simp [Go.part, tagg_ok hag, tsize_ok hsz]
      · have hlen : cs.length = vs.size - off := by simpa using hl.1
        refine .agg _ _ _ (by simp; omega) (fun i v hv => ?_) (fun i c v hc hv => ?_)
        · rw [Array.getElem?_extract] at hv
          split at hv
          · exact h1 _ v hv
          · cases hv
        · rw [Array.getElem?_extract] at hv
          rw [List.getElem?_take] at hc
          split at hv
          · split at hc
            · exact hl.2 i c v hc (by simpa using hv)
            · cases hc
          · cases hv
  · rename_i n hag hsz
    split at h
    · rename_i c cs'
      cases h
      obtain ⟨v, hv, hr⟩ := hl.get (i := 0) (p := p) rfl
      have hv' : vs[off]? = some v := by simpa using hv
      exact ⟨v, by simp [Go.part, tagg_ok hag, hv'], hr, fun _ => .inr trivial⟩
    · cases h
  · cases h
end tables
end Go.Proofs.YtfecnejgdafbcaaGreatDoor.Pi
