/- An abstract machine over the model's code, proved sound (part 4). No conditions. -/
import Derived.Test.YtlgfmjmfncdegaaGreatDoorVm3
import Derived.Laws.Externs
import Derived.Lib.Bytealg
import Derived.RangeFuncLeaves
import Derived.LoopNIn
import Derived.OrdersIn
namespace Go.Vt
variable {P : Program} {G : Glob}

/-! # Functions without a body -/
section
variable {B : Nat} {s s' : St} {β : Beta} {ro : Ro} {w w' : World}

/-- what the model has in the place of such a function -/
def ExtIs (P : Program) (e : Array Value → Sem Value) : Prim → Prop
  | .ident => e = Extern.AbiNoEscape.same
  | .indexByteString => e = Extern.BytealgIndexByte.indexByte
  | .cmpstring => e = Extern.BytealgCompare.compare
  | .makeNoZero el => ∃ ps rs t, e = Extern.BytealgMakeNoZero.makeNoZero ps rs ∧ rs[0]? = some t ∧ P.underlying t = some (.slice el)
  | .nothing => ∃ m, e = fun _ => do mark m; pure (.tuple #[])
  | .race => ∃ m, e = Extern.Race.marked m
  | .atomLoad k => e = Extern.Atomic.loadT (.int k)
  | .atomStore => e = Extern.Atomic.storeT
  | .atomCas k => e = Extern.Atomic.casT (.int k)
  | .atomAdd k => e = Extern.Atomic.update (Op.intArith .add) k true

theorem indexN_eq (c : UInt8) : ∀ (l : List UInt8) (k : Nat), indexN c.toNat (l.map UInt8.toNat) k = if Lib.indexByte l c = -1 then -1 else Lib.indexByte l c + k
  | [], k => by simp [indexN, Lib.indexByte]
  | b :: l, k => by
    have ih := indexN_eq c l (k + 1)
    have hb : Nat.beq b.toNat c.toNat = (b == c) := by
      rw [beq_nat, Bool.eq_iff_iff]; simp [UInt8.toNat_inj]
    simp only [List.map_cons, indexN, hb, Lib.indexByte]
    by_cases hc : (b == c) = true
    · simp [hc]
    · have hc : (b == c) = false := by simpa using hc
      simp only [hc, cond_false, Bool.false_eq_true, if_false]
      rw [show Nat.succ k = k + 1 from rfl, ih]
      have hnn : ∀ l : List UInt8, Lib.indexByte l c = -1 ∨ 0 ≤ Lib.indexByte l c := by
        intro l
        induction l with
        | nil => left; rfl
        | cons x l ih =>
          simp only [Lib.indexByte]
          split
          · right; omega
          · split
            · left; rfl
            · rename_i h1 h2
              have : Lib.indexByte l c ≠ -1 := by simpa using h2
              right; omega
      rcases hnn l with h | h
      · simp [h]
      · have h1 : Lib.indexByte l c ≠ -1 := by omega
        have h2 : Lib.indexByte l c + 1 ≠ -1 := by omega
        simp [h1, h2]; omega
theorem cmpN_eq : ∀ (a b : List UInt8), (bif natEq (a.map UInt8.toNat) (b.map UInt8.toNat) then (0 : Int) else bif natLt (a.map UInt8.toNat) (b.map UInt8.toNat) then -1 else 1) = Lib.compareBytes a b
  | [], [] => rfl
  | [], _ :: _ => rfl
  | _ :: _, [] => rfl
  | a :: x, b :: y => by
    have ih := cmpN_eq x y
    have h1 : Nat.blt a.toNat b.toNat = decide (a < b) := by
      rw [Bool.eq_iff_iff, Nat.blt_eq]; simp [UInt8.lt_iff_toNat_lt]
    have h2 : Nat.beq a.toNat b.toNat = (a == b) := by
      rw [beq_nat, Bool.eq_iff_iff]; simp [UInt8.toNat_inj]
    simp only [List.map_cons, natEq, natLt, Lib.compareBytes, h1, h2]
    by_cases hlt : a < b
    · have hne : (a == b) = false := by
        simp; rintro rfl; exact absurd hlt (by simp)
      simp [hlt, hne]
    · by_cases hgt : b < a
      · have hne : (a == b) = false := by
          simp; rintro rfl; exact absurd hgt (by simp)
        simp [hlt, hgt, hne]
      · have he : a = b := by
          have e1 : ¬ a.toNat < b.toNat := fun h => hlt (UInt8.lt_iff_toNat_lt.2 h)
          have e2 : ¬ b.toNat < a.toNat := fun h => hgt (UInt8.lt_iff_toNat_lt.2 h)
          exact UInt8.toNat_inj.1 (by omega)
        subst he
        simp [ih]

theorem digits_size : ∀ (n t : Nat) (acc : Array Value), (Extern.BytealgMakeNoZero.digits n t acc).size = acc.size + n
  | 0, _, acc => by simp [Extern.BytealgMakeNoZero.digits]
  | n + 1, t, acc => by
    rw [Extern.BytealgMakeNoZero.digits, digits_size n]
    simp; omega

/-- one cell written -/
theorem write_one (hR : Rel G B s β ro w) {b off : Nat} {v : AV} {u : Value} {r : Ref} (hw : write s b off [v] = some s') (hb : β b = some r) (hv : VR β w ro v u) :
    Step G B s β ro w s' β ro (w.setCell ⟨r.blk, r.off + off, none⟩ u) ∧ (w.cell? ⟨r.blk, r.off + off, none⟩).isSome = true ∧ w.frozen? ⟨r.blk, r.off + off, none⟩ = false ∧ u.oneCell' = true := by
  obtain ⟨g1, g2, g3, g4⟩ := Step.write hR hw hb (.cons hv .nil)
  exact ⟨g1, by simpa using g2 0 (by simp), by simpa using g3 0 (by simp), g4 u (by simp)⟩

theorem run_store_atomic {a : Addr} {v : Value} (h1 : (w.cell? a).isSome = true) (h2 : w.frozen? a = false) (h3 : v.oneCell' = true) : (store a v .atomic).run P w = .ok () (w.setCell a v) := by
  obtain ⟨c, hc⟩ := Option.isSome_iff_exists.1 h1
  cases v <;> first | (simp [Value.oneCell'] at h3; done) | simp [store, Sem.run, hc, h2]
theorem run_load_atomic {a : Addr} {v : Value} (h1 : w.cell? a = some v) : (load a .atomic).run P w = .ok v w := by
  simp [load, Sem.run, h1]

theorem run_storeK {α : Type} {a : Addr} {v : Value} (k : Sem α) (h1 : (w.cell? a).isSome = true) (h2 : w.frozen? a = false) (h3 : v.oneCell' = true) : (Sem.store .atomic a v k).run P w = k.run P (w.setCell a v) := by
  obtain ⟨c, hc⟩ := Option.isSome_iff_exists.1 h1
  cases v <;> first | (simp [Value.oneCell'] at h3; done) | simp [Sem.run, hc, h2]

theorem evPrim_ok {p : Prim} {args : List AV} {v : AV} {e : Array Value → Sem Value} (he : ExtIs P e p) (h : evPrim G p args s = some (v, s')) (hR : Rel G B s β ro w) (hB : B ≤ w.heap.size) {vs : List Value} (hv : VRs β w ro args vs) :
    ∃ u β' ro' w', (e vs.toArray).run P w = .ok u w' ∧ VR β' w' ro' v u ∧ Step G B s β ro w s' β' ro' w' := by
  unfold evPrim at h
  split at h
  · -- ident
    cases h
    obtain rfl := he
    cases hv with
    | cons h1 h2 =>
    cases h2
    exact ⟨_, β, ro, w, rfl, h1, .refl hR⟩
  · -- indexByteString
    rename_i l c
    obtain rfl := he
    obtain ⟨hc, h⟩ := iff'_some h
    have hc := blt_true hc
    obtain ⟨rfl, h1, _⟩ := pureA_some h
    rw [intA_eq] at h1
    cases h1
    cases hv with
    | cons g1 g2 =>
    cases g2 with
    | cons g2 g3 =>
    cases g3
    obtain ⟨b, rfl, rfl⟩ := eval_str g1
    have := eval_int g2
    subst this
    refine ⟨_, β, ro, w, Lib.run_indexByteString b _ w, ?_, .refl hR⟩
    have hcc : c = (UInt8.ofNat c).toNat := by simp; omega
    have e1 : ((Int.ofNat c).toNat).toUInt8 = UInt8.ofNat c := rfl
    rw [e1]
    have e2 := indexN_eq (UInt8.ofNat c) b.data.toList 0
    rw [← hcc] at e2
    have e3 : indexN c (bytesOf b) 0 = Lib.indexByte b.data.toList (UInt8.ofNat c) := by
      show indexN c (b.data.toList.map UInt8.toNat) 0 = _
      rw [e2]
      split
      · rename_i h; exact h.symm
      · simp
    rw [e3]
    exact .int _ _
  · -- cmpstring
    rename_i l c
    obtain rfl := he
    obtain ⟨rfl, h1, _⟩ := pureA_some h
    rw [intA_eq] at h1
    cases h1
    cases hv with
    | cons g1 g2 =>
    cases g2 with
    | cons g2 g3 =>
    cases g3
    obtain ⟨a, rfl, rfl⟩ := eval_str g1
    obtain ⟨b, rfl, rfl⟩ := eval_str g2
    refine ⟨goInt (Extern.BytealgCompare.cmp a b), β, ro, w, rfl, ?_, .refl hR⟩
    rw [Lib.cmp_eq, ← cmpN_eq]
    exact .int _ _
  · -- makeNoZero
    rename_i el n
    obtain ⟨ps, rs, t, rfl, ht, hu⟩ := he
    obtain ⟨hn, h⟩ := iff'_some h
    have hn := Nat.le_of_ble_eq_true hn
    obtain ⟨rfl, rfl⟩ := newCells_some h
    cases hv with
    | cons g1 g2 =>
    cases g2
    have := eval_int g1
    subst this
    let cap := Question.cut (.appendCap n 0 el) (w.tape w.drawn (.appendCap n 0 el))
    have hcap : n ≤ cap := Nat.le_add_right _ _
    let bytes := Question.cut (.extern "internal/bytealg.MakeNoZero.bytes" 0) (w.drew.tape w.drew.drawn (.extern "internal/bytealg.MakeNoZero.bytes" 0))
    let arr := Extern.BytealgMakeNoZero.digits cap bytes #[]
    have hsz : arr.size = cap := by simp [arr, digits_size]
    have hst := Step.new hR hB (.cells ⟨Tr.putFrom [] .leaf 0, n, 0, el, true, []⟩) ⟨w.heap.size, 0, arr.size, el⟩ (.cells arr el) rfl (by
      refine ⟨arr, (0, 0), { zero := rfl, heap := heap?_alloc_new _, tot := rfl, size := by simp [hsz]; exact hcap, elem := fun _ => ⟨rfl, fun _ => .inl rfl⟩, cell := fun j a _ ha => ?_, noRo := fun _ j _ hc => ?_, soft := fun _ j _ _ hc => ?_ }⟩
      · rw [Tr.putFrom_nil] at ha; simp [Tr.get_leaf] at ha
      · have := hR.sealedRoom _ _ hc; simp at this
      · simp at hc) (by rintro c ⟨⟩ a ha; cases ha)
    have hd := Step.drewN hst.rel 2
    refine ⟨.slice (some ⟨w.heap.size, 0, none⟩) n cap, _, ro, _, ?_, ?_, hst.trans hd⟩
    · have hdef : Extern.BytealgMakeNoZero.makeNoZero ps rs #[.int .i64 (Int.ofNat n)] = (do
          let some t := rs[0]? | stuck "bytealg.MakeNoZero: no result type"
          let .slice elem ← underlying t | stuck "bytealg.MakeNoZero: slice type expected"
          if (Int.ofNat n) < 0 || (Int.ofNat n) > 2 ^ 48 then runtimePanic (.error "makeslice: len out of range")
          let cap ← choose (.appendCap (Int.ofNat n).toNat 0 elem)
          askRoom cap
          let bytes ← choose (.extern "internal/bytealg.MakeNoZero.bytes" 0)
          let a ← newRow elem (Extern.BytealgMakeNoZero.digits cap bytes #[])
          pure (.slice (some a) (Int.ofNat n).toNat cap)) := rfl
      have hask : ∀ (c : Nat) (w : World), (askRoom c).run P w = .ok () w := by
        intro c w; unfold askRoom; split <;> rfl
      have hb1 : ¬ (281474976710656 : Int) < (n : Int) := by omega
      show (Extern.BytealgMakeNoZero.makeNoZero ps rs #[.int .i64 (Int.ofNat n)]).run P w = _
      rw [hdef, ht]
      simp [run_und hu, hb1, Question.forced, hask, newRow, cap, arr, bytes]
      rfl
    · exact .slice (Beta.put_self _ _ _) (.inl rfl) (Nat.le_refl _) hcap (by simp) (by simp [hsz])
  · -- nothing
    obtain ⟨m, rfl⟩ := he
    cases h
    exact ⟨.tuple #[], β, ro, w, rfl, .tuple .nil, .refl hR⟩
  · -- race
    obtain ⟨m, rfl⟩ := he
    cases h
    cases hv with
    | cons g1 g2 =>
    cases g2
    cases g1 with
    | ptr hb =>
    exact ⟨.tuple #[], β, ro, w, rfl, .tuple .nil, .refl hR⟩
  · -- load
    rename_i k p
    obtain rfl := he
    obtain ⟨q, h1, h⟩ := bnd_eq_some h
    cases q <;> first | (cases h; done) | skip
    rename_i j n
    obtain ⟨h2, h⟩ := iff'_some h
    cases h
    have h2 := ikEq_eq h2
    subst h2
    cases hv with
    | cons g1 g2 =>
    cases g2
    obtain ⟨X, o, u, e1, e2, e3⟩ := gread1_rel hR h1 g1
    subst e1
    have := eval_int e2
    subst this
    refine ⟨.int j n, β, ro, w, ?_, .int _ _, .refl hR⟩
    show (do Extern.Atomic.read (.int j) (← asAddr (.pointer (some ⟨X, o, none⟩)))).run P w = _
    simp [asAddr, Extern.Atomic.read, run_load_atomic e3]
  · -- store
    rename_i b off k n
    obtain rfl := he
    obtain ⟨s1, h1, h⟩ := bnd_eq_some h
    cases h
    cases hv with
    | cons g1 g2 =>
    cases g2 with
    | cons g2 g3 =>
    cases g3
    cases g1 with
    | @ptr _ _ r hb =>
    obtain ⟨k1, k2, k3, k4⟩ := write_one hR h1 hb g2
    refine ⟨.tuple #[], β, ro, _, ?_, .tuple .nil, k1⟩
    exact run_storeK (.pure Extern.Atomic.none_) k2 k3 k4
  · -- cas
    rename_i k b off k1 x j y
    obtain rfl := he
    obtain ⟨q, h1, h⟩ := bnd_eq_some h
    cases q <;> first | (cases h; done) | skip
    rename_i j' n
    obtain ⟨h2, h⟩ := iff'_some h
    obtain ⟨s1, h3, h⟩ := bnd_eq_some h
    cases h
    simp only [Bool.and_eq_true] at h2
    have h4 := ikEq_eq h2.1
    subst h4
    have h5 := h2.2
    rw [ieq_eq] at h5
    have h5 : n = x := by simpa using h5
    subst h5
    cases hv with
    | cons g1 g2 =>
    cases g2 with
    | cons g2 g3 =>
    cases g3 with
    | cons g3 g4 =>
    cases g4
    obtain ⟨X, o, u, e1, e2, e3⟩ := gread1_rel hR h1 g1
    have := eval_int e2
    subst this
    have := eval_int g2
    subst this
    cases g1 with
    | @ptr _ _ r hb =>
    cases e1
    have hnew := eval_int g3
    subst hnew
    obtain ⟨z1, k2, k3, k4⟩ := write_one hR h3 hb g3
    have hsh : ∃ sh, w.shape? r.blk = some sh := by
      simp only [World.cell?] at e3
      cases hh : w.heap[r.blk]? with
      | none => rw [hh] at e3; cases e3
      | some ob =>
        rw [hh] at e3
        cases ob with
        | cells c t f => exact ⟨(t, c.size), by simp only [World.shape?, hh]⟩
        | _ => cases e3
    obtain ⟨sh, hsh⟩ := hsh
    refine ⟨.bool true, β, ro, _, ?_, .bool true, z1⟩
    have hdef : Extern.Atomic.casT (.int j') #[.pointer (some ⟨r.blk, r.off + off, none⟩), .int k1 n, (Value.int j y)] = (do
        if ← Extern.Atomic.touchesFrozen ⟨r.blk, r.off + off, none⟩ then unsupported (.unsafePointer "a write to bytes that a string shares")
        let eq ← match Extern.Atomic.T.int j', ← Extern.Atomic.read (.int j') ⟨r.blk, r.off + off, none⟩, Value.int k1 n with
          | _, .int _ x, .int _ y => pure (x == y)
          | .ptr, .pointer x, .pointer y => samePointer x y
          | .int _, .pointer (some _), .int _ 0 | .int _, .int _ 0, .pointer (some _) => pure false
          | .int _, .pointer (some _), _ | .int _, _, .pointer (some _) => unsupported .addressObserved
          | _, _, _ => stuck "atomic.CompareAndSwap: old is no T"
        if eq then store ⟨r.blk, r.off + off, none⟩ (Value.int j y) .atomic
        pure (.bool eq)) := rfl
    show (Extern.Atomic.casT (.int j') #[.pointer (some ⟨r.blk, r.off + off, none⟩), .int k1 n, (Value.int j y)]).run P w = _
    rw [hdef]
    have htf : (Extern.Atomic.touchesFrozen ⟨r.blk, r.off + off, none⟩).run P w = .ok false w := by
      simp [Extern.Atomic.touchesFrozen, viewAt, hsh, k3]
    have hst := run_store_atomic (P := P) k2 k3 k4
    have hrd : (Extern.Atomic.read (.int j') ⟨r.blk, r.off + off, none⟩).run P w = .ok (.int j' n) w := by simp [Extern.Atomic.read, e3]
    simp only [Sem.run_bind, htf, Result.andThen_ok, hrd, Bool.false_eq_true, if_false, Sem.run_pure, beq_self_eq_true, if_true, hst]
  · -- add
    rename_i k b off k1 y
    obtain rfl := he
    obtain ⟨q, h1, h⟩ := bnd_eq_some h
    cases q <;> first | (cases h; done) | skip
    rename_i j' n
    obtain ⟨h2, h⟩ := iff'_some h
    obtain ⟨nv, hnv, h⟩ := bnd_eq_some h
    rw [intA_eq] at hnv
    obtain ⟨s1, h3, h⟩ := bnd_eq_some h
    cases h
    cases hnv
    have h4 := ikEq_eq h2
    subst h4
    cases hv with
    | cons g1 g2 =>
    cases g2 with
    | cons g2 g3 =>
    cases g3
    obtain ⟨X, o, u, e1, e2, e3⟩ := gread1_rel hR h1 g1
    have := eval_int e2
    subst this
    have := eval_int g2
    subst this
    cases g1 with
    | @ptr _ _ r hb =>
    cases e1
    obtain ⟨k1', k2, k3, k4⟩ := write_one hR h3 hb (.int j' (wrapK j' (Int.add n y)))
    refine ⟨.int j' (wrapK j' (Int.add n y)), β, ro, _, ?_, .int _ _, k1'⟩
    have hdef : Extern.Atomic.update (Op.intArith .add) j' true #[.pointer (some ⟨r.blk, r.off + off, none⟩), .int k1 y] = (do
        let old ← Extern.Atomic.read (.int j') ⟨r.blk, r.off + off, none⟩
        let new ← Op.intArith .add j' (← asInt old) (← asInt (.int k1 y))
        store ⟨r.blk, r.off + off, none⟩ new .atomic
        pure new) := rfl
    show (Extern.Atomic.update (Op.intArith .add) j' true #[.pointer (some ⟨r.blk, r.off + off, none⟩), .int k1 y]).run P w = _
    rw [hdef]
    have hadd : (Op.intArith .add j' n y).run P w = .ok (.int j' (wrapK j' (Int.add n y))) w := by rw [wrapK_eq]; rfl
    have hst := run_store_atomic (P := P) k2 k3 k4
    have hrd : (Extern.Atomic.read (.int j') ⟨r.blk, r.off + off, none⟩).run P w = .ok (.int j' n) w := by simp [Extern.Atomic.read, e3]
    simp only [Sem.run_bind, Result.andThen_ok, hrd, asInt, asIntOf, Sem.run_pure, hadd, hst]
  · cases h
end
end Go.Vt
namespace Go.Vt

/-! # A scope with jumps, in the fenced walk -/
section
variable {F : Fence} {n : Nat} {P : Program} {b : Frame} {a : Act} {k : List Item} {cs : List Frame} {w : World} {Q : Exit → Act → World → Prop}
theorem stepR_scope {c : Code} : step P (lone (b.atR a (.code (.scope c) :: k)) cs w) = .next (lone (b.atR a (.code c :: .inScope c :: k)) cs w) :=
  step_lone_go (by simp [stepG, stepG.exec, Frame.atR])
theorem stepR_inScope {c : Code} : step P (lone (b.atR a (.inScope c :: k)) cs w) = .next (lone (b.atR a k) cs w) :=
  step_lone_go (by simp [stepG, stepG.exec, Frame.atR])
def scopeStep (c : Code) (K : Code → Act → World → Prop) (Q : Exit → Act → World → Prop) : Exit → Act → World → Prop
  | .goto l, a, w => match findLabel c l with
    | some r => K r a w
    | none => Q (.goto l) a w
  | e, a, w => Q e a w
def scopeIn (F : Fence) (n : Nat) (P : Program) (c : Code) (Q : Exit → Act → World → Prop) : Nat → Code → Act → World → Prop
  | 0, _, _, _ => False
  | m + 1, r, a, w => r.wpIn F n P (scopeStep c (scopeIn F n P c Q m) Q) a w
theorem exitTo_scope (c : Code) (id : Nat) (k : List Item) : exitTo id (.inScope c :: k) = exitTo id k := by simp [exitTo]
theorem wpIn_scope_rounds {c : Code} (m : Nat) (h : scopeIn F n P c Q m c a w) : (Code.scope c).wpIn F n P Q a w := by
  intro b k cs hro hb hr
  have key : ∀ (m : Nat) (r : Code) (a : Act) (w : World), scopeIn F n P c Q m r a w → ∃ e a' w', Q e a' w' ∧ ArrivesIn (Machine.fenced P F) P (lone (b.atR a (.code r :: .inScope c :: k)) cs w) b k cs e a' w' := by
    intro m
    induction m with
    | zero => intro r a w h; exact h.elim
    | succ m ih =>
      intro r a w h
      obtain ⟨e, a₁, w₁, hq, harr⟩ := h b (.inScope c :: k) cs hro hb hr
      cases e with
      | normal => exact ⟨.normal, a₁, w₁, hq, StepsIn.trans harr (.one (fenced_calm hb hr rfl) stepR_inScope)⟩
      | exit id =>
        refine ⟨.exit id, a₁, w₁, hq, fun k' hk => harr.1 k' (by rw [exitTo_scope]; exact hk), fun hr' hk => harr.2 hr' (by rw [exitTo_scope]; exact hk)⟩
      | goto l =>
        cases hf : findLabel c l with
        | some rest =>
          simp only [scopeStep, hf] at hq
          obtain ⟨e₂, a₂, w₂, hq₂, harr₂⟩ := ih rest a₁ w₁ hq
          exact ⟨e₂, a₂, w₂, hq₂, .of_steps (harr.1 _ (by simp [gotoIn, hf])) harr₂⟩
        | none =>
          simp only [scopeStep, hf] at hq
          have hg : gotoIn l (.inScope c :: k) = gotoIn l k := by simp [gotoIn, hf]
          exact ⟨.goto l, a₁, w₁, hq, fun k' hk => harr.1 k' (by rw [hg]; exact hk), fun hr' hk => harr.2 hr' (by rw [hg]; exact hk)⟩
      | ret => exact ⟨_, a₁, w₁, hq, harr⟩
      | panic ch => exact ⟨_, a₁, w₁, hq, harr⟩
      | outgrown => exact ⟨_, a₁, w₁, hq, harr⟩
  obtain ⟨e, a', w', hq, harr⟩ := key m c a w h
  exact ⟨e, a', w', hq, .of_steps (.one (fenced_calm hb hr rfl) stepR_scope) harr⟩
end

/-! ## Where results are laid, and ranges over functions -/
theorem dstB_label {N l : Nat} : ∀ {c r : Code}, dstB N c = true → findLabel c l = some r → dstB N r = true := by
  intro c
  induction c with
  | seq a b iha ihb =>
    intro r h hf
    simp only [dstB, Bool.and_eq_true] at h
    unfold findLabel at hf
    cases ha : findLabel a l with
    | some x =>
      rw [ha] at hf; cases hf
      simp only [dstB, Bool.and_eq_true]
      exact ⟨iha h.1 ha, h.2⟩
    | none => rw [ha] at hf; exact ihb h.2 hf
  | label l' =>
    intro r h hf
    unfold findLabel at hf
    split at hf <;> first | (cases hf; rfl) | cases hf
  | _ => intro r h hf; simp [findLabel] at hf
theorem noRange_label {l : Nat} : ∀ {c r : Code}, noRange c = true → findLabel c l = some r → noRange r = true := by
  intro c
  induction c with
  | seq a b iha ihb =>
    intro r h hf
    simp only [noRange, Bool.and_eq_true] at h
    unfold findLabel at hf
    cases ha : findLabel a l with
    | some x =>
      rw [ha] at hf; cases hf
      simp only [noRange, Bool.and_eq_true]
      exact ⟨iha h.1 ha, h.2⟩
    | none => rw [ha] at hf; exact ihb h.2 hf
  | label l' =>
    intro r h hf
    unfold findLabel at hf
    split at hf <;> first | (cases hf; rfl) | cases hf
  | _ => intro r h hf; simp [findLabel] at hf
end Go.Vt
namespace Go.Vt
open Go.RowKit (Below)

/-! # What the abstract machine says of calls and of code -/
abbrev FW (rd : Option Nat) : Fence := { fn := fun _ => True, depth := none, alive := false, round := rd }
theorem FW_none : FW none = Fence.wide := rfl
theorem CallsIn.free {rd rd' : Option Nat} {n : Nat} {P : Program} {f : FuncId} {args : Array Value} {w : World} {R : Ending → World → Prop} (h : CallsIn (FW rd) n P f args w R) (n' : Nat) : CallsIn (FW rd') n' P f args w R :=
  ⟨trivial, fun cs _ => h.2 cs fun _ hd => by cases hd⟩

/-- of a known call -/
structure Later (ro : Ro) (w : World) (ro' : Ro) (w' : World) : Prop where
  size : w.heap.size ≤ w'.heap.size
  os : w'.os = w.os
  tape : w'.tape = w.tape
  output : w'.output = w.output
  heap : ∀ X, X < w.heap.size → w'.heap[X]? = w.heap[X]?
  more : ∀ X o, ro X o → ro' X o
  only : ∀ X o, ro' X o → ro X o ∨ w.heap.size ≤ X
  room : ∀ X o, ro' X o → X < w'.heap.size
def GlobOk (G : Glob) (ro : Ro) (w : World) : Prop := ∀ g cs, G g = some cs → ∃ vs, VRs (fun _ => none) w ro cs vs ∧ Mem w ro g 0 vs
structure FactOk (P : Program) (G : Glob) (f : Nat) (dargs : List AV) (dres : AV) : Prop where
  deepA : deeps dargs = true
  deepR : deep dres = true
  call : ∀ (w : World) (ro : Ro) (vs : List Value), (∀ X o, ro X o → X < w.heap.size) → GlobOk G ro w → VRs (fun _ => none) w ro dargs vs →
    (callFunc f vs.toArray).run P w = .ok (.enter f vs.toArray) w ∧ CallsIn (FW none) 0 P f vs.toArray w fun e w' => ∃ u ro', e = .returned u ∧ VR (fun _ => none) w' ro' dres u ∧ Later ro w ro' w'

def CRes (G : Glob) (B : Nat) (s : St) (β : Beta) (ro : Ro) (w : World) (s' : St) (v : AV) (e : Ending) (w' : World) : Prop :=
  ∃ u β' ro', e = .returned u ∧ VR β' w' ro' v u ∧ Step G B s β ro w s' β' ro' w'
/-- what an operation that calls comes to -/
def Gets (P : Program) (G : Glob) (B : Nat) (s : St) (β : Beta) (ro : Ro) (w : World) (s' : St) (v : AV) (nx : Next) (w1 : World) : Prop :=
  (∃ u β' ro', Gives nx u ∧ VR β' w1 ro' v u ∧ Step G B s β ro w s' β' ro' w1) ∨
  (∃ f as, nx = .enter f as ∧ w1 = w ∧ CallsIn (FW none) 0 P f as w (CRes G B s β ro w s' v)) ∨
  (∃ l f tmps assign body, nx = .round l f tmps assign body ∧ w1 = w ∧ RoundIn (FW none) 0 P l f tmps assign body w (CRes G B s β ro w s' v))
def CallOk (P : Program) (G : Glob) (run : Nat → List AV → St → Res) : Prop :=
  ∀ f args s v s', run f args s = some (v, s') → ∀ B β ro w vs, Rel G B s β ro w → B ≤ w.heap.size → VRs β w ro args vs →
    ∃ nx w1, (callFunc f vs.toArray).run P w = .ok nx w1 ∧ Gets P G B s β ro w s' v nx w1

def toExit : AExit → Exit
  | .normal => .normal
  | .exit i => .exit i
  | .goto l => .goto l
  | .ret => .ret
def mkMarks (Ds : List Nat) : List Deferred := Ds.map fun D => { target := .collected D, args := #[] }
structure MarksOk (β : Beta) (w : World) (lo : Nat) (Ds : List Nat) : Prop where
  nodup : Ds.Nodup
  ok : ∀ D ∈ Ds, lo ≤ D ∧ w.heap[D]? = some (.deferred (some [])) ∧ ∀ b r, β b = some r → r.blk ≠ D
def CPost (G : Glob) (B : Nat) (s : St) (β : Beta) (ro : Ro) (w : World) (c : Code) (a : Act) (x : AExit) (T' : Tmps) (s' : St) (e : Exit) (a' : Act) (w' : World) : Prop :=
  e = toExit x ∧ ∃ β' ro' Ds, a'.tmps.size = a.tmps.size ∧ a'.defers = mkMarks Ds ++ a.defers ∧ MarksOk β' w' w.heap.size Ds ∧ (noRange c = true → Ds = []) ∧ TRel β' w' ro' T' a'.tmps ∧ Step G B s β ro w s' β' ro' w'
def CodeOk (P : Program) (E : Env) (rec : Ev) : Prop :=
  ∀ c T s x T' s', rec c T s = some (x, T', s') → ∀ rd B β ro w a N n, dstB N c = true → (rd.isSome = true → noRange c = true) → N ≤ a.tmps.size → Rel E.G B s β ro w → B ≤ w.heap.size → TRel β w ro T a.tmps →
    c.wpIn (FW rd) n P (CPost E.G B s β ro w c a x T' s') a w

/-- what is asked of the environment -/
structure EnvOk (P : Program) (E : Env) : Prop where
  ty : TyOk P E.T
  flat : ∀ t ks, E.F t = some ks → FlatT P t ks
  meth : MethOk P E.M
  asst : AssertOk P E.A
  funcs : ∀ f fn, E.funcs.get f = some fn → P.funcs[f]? = some fn
  named : ∀ f fn, E.funcs.get f = some fn → (fn.name == "runtime.NumGoroutine") = false
  prims : ∀ f fn p, E.funcs.get f = some fn → E.prim f = some p → fn.body = none → Extern.findNext fn = none ∧ ∃ e, Extern.find fn = some e ∧ ExtIs P e p
  dst : ∀ f fn c, E.funcs.get f = some fn → fn.body = some c → dstB fn.ntmps c = true
  mixed : P.follows .mixedOrders = true
  globDeep : ∀ g cs, E.G g = some cs → deeps cs = true
  facts : ∀ f args r, (args, r) ∈ E.facts f → FactOk P E.G f args r

section
variable {P : Program} {G : Glob} {B : Nat} {s s' s'' : St} {β β' β'' : Beta} {ro ro' ro'' : Ro} {w w' w'' : World}

theorem MarksOk.step {lo : Nat} {Ds : List Nat} (h : MarksOk β w lo Ds) (st : Step G B s β ro w s' β' ro' w') : MarksOk β' w' lo Ds where
  nodup := h.nodup
  ok := fun D hD => by
    obtain ⟨h1, h2, h3⟩ := h.ok D hD
    have hlt : D < w.heap.size := (Array.getElem?_eq_some_iff.1 h2).1
    refine ⟨h1, (st.frame D hlt h3).trans h2, fun b r hb => ?_⟩
    rcases st.newB b r hb with hb | ⟨_, hb | ⟨b0, r0, hb0, e⟩⟩
    · exact h3 b r hb
    · omega
    · rw [← e]; exact h3 b0 r0 hb0
theorem MarksOk.nil {lo : Nat} : MarksOk β w lo [] := ⟨.nil, by simp⟩
theorem MarksOk.low {lo lo' : Nat} {Ds : List Nat} (h : MarksOk β w lo Ds) (hl : lo' ≤ lo) : MarksOk β w lo' Ds :=
  ⟨h.nodup, fun D hD => let ⟨a, b, c⟩ := h.ok D hD; ⟨Nat.le_trans hl a, b, c⟩⟩
theorem MarksOk.append {lo hi : Nat} {Ds Es : List Nat} (h : MarksOk β w lo Ds) (k : MarksOk β w hi Es) (hlt : ∀ D ∈ Ds, D < hi) (hl : lo ≤ hi) : MarksOk β w lo (Es ++ Ds) where
  nodup := List.nodup_append.2 ⟨k.nodup, h.nodup, fun D hD E hE e => by have := (k.ok D hD).1; have := hlt E hE; omega⟩
  ok := fun D hD => by
    rcases List.mem_append.1 hD with hD | hD
    · obtain ⟨a, b, c⟩ := k.ok D hD; exact ⟨by omega, b, c⟩
    · exact h.ok D hD

/-- A block that the abstract heap does not know of is turned, and was not there at the start. -/
theorem Step.putNew (h : Step G B s β ro w s' β' ro' w') {D : Nat} {o : Obj} (hD : w.heap.size ≤ D) (hnc : ∀ arr t f, w'.heap[D]? ≠ some (.cells arr t f)) (hB : ∀ b r, β' b = some r → r.blk ≠ D) :
    Step G B s β ro w s' β' ro' (w'.putObj D o) := by
  have e : Evo β' w' ro' β' (w'.putObj D o) ro' := Evo.putObj hnc
  have hr := h.rel
  refine {
    rel := {
      freshB := hr.freshB
      room := fun b r hb => by rw [World.putObj_size]; exact hr.room b r hb
      obj := fun b x r hx hb => (hr.obj b x r hx hb).evo e (World.putObj_heap_other (hB b r hb)) fun _ _ _ _ _ hc => hc
      sep := hr.sep, solo := hr.solo, ancs := hr.ancs
      sealedRoom := fun X o hX => by rw [World.putObj_size]; exact hr.sealedRoom X o hX
      glob := fun g cs hg => let ⟨vs, h1, h2⟩ := hr.glob g cs hg; ⟨vs, h1.evo e, h2.evo e⟩ }
    evo := h.evo.trans e
    size := by rw [World.putObj_size]; exact h.size
    os := h.os, tape := h.tape, output := h.output
    frame := fun X hX hu => (World.putObj_heap_other (by omega)).trans (h.frame X hX hu)
    nx := h.nx, tl := h.tl, newB := h.newB, newRo := h.newRo }
theorem TRel.putNew {D : Nat} {o : Obj} {T : Tmps} {tmps : Array Value} (hnc : ∀ arr t f, w'.heap[D]? ≠ some (.cells arr t f)) (h : TRel β' w' ro' T tmps) : TRel β' (w'.putObj D o) ro' T tmps := h.evo (Evo.putObj hnc)

/-- the results of a function -/
def resOne (tmps : Array Value) : ResultVar → Sem Value
  | .tmp t => pure (tmps.getD t undef)
  | .cell a t => do loadVar t (← asAddr (tmps.getD a undef))
theorem results_def (fn : Func) (tmps : Array Value) : results fn tmps = (do let vs ← fn.results.mapM (resOne tmps); pure (if h : vs.size = 1 then vs[0] else .tuple vs)) := by
  rfl
theorem run_asAddr (a : Addr) (w : World) : (asAddr (.pointer (some a))).run P w = .ok a w := rfl
theorem resA_rel {E : Env} (hE : EnvOk P E) (hR : Rel E.G B s β ro w) {T : Tmps} {tmps : Array Value} (hT : TRel β w ro T tmps) : ∀ {rs : List ResultVar} {l : List AV}, resA E T s rs = some l →
    ∃ vs, (rs.mapM (resOne tmps)).run P w = .ok vs w ∧ VRs β w ro l vs
  | [], l, h => by cases h; exact ⟨[], rfl, .nil⟩
  | .tmp t :: r, l, h => by
    obtain ⟨v, h1, h⟩ := bnd_eq_some h
    obtain ⟨l', h2, h⟩ := bnd_eq_some h
    cases h
    obtain ⟨vs, g1, g2⟩ := resA_rel hE hR hT h2
    obtain ⟨u, k1, k2⟩ := hT t v h1
    refine ⟨u :: vs, ?_, .cons k2 g2⟩
    have hu : tmps.getD t undef = u := by simp [Array.getD_eq_getD_getElem?, k1]
    simp only [List.mapM_cons, resOne, Sem.run_bind, Sem.run_pure, Result.andThen_ok, hu, g1]
  | .cell a t :: r, l, h => by
    obtain ⟨p, h1, h⟩ := bnd_eq_some h
    obtain ⟨agg, h2, h⟩ := bnd_eq_some h
    obtain ⟨n, h3, h⟩ := bnd_eq_some h
    obtain ⟨l', h4, h⟩ := bnd_eq_some h
    obtain ⟨vs, g1, g2⟩ := resA_rel hE hR hT h4
    obtain ⟨u, k1, k2⟩ := hT a p h1
    have hu : tmps.getD a undef = u := by simp [Array.getD_eq_getD_getElem?, k1]
    cases agg with
    | true =>
      obtain ⟨cs, h5, h⟩ := bnd_eq_some h
      cases h
      obtain ⟨X, o, us, e1, e2, e3, e4⟩ := gread_rel hR h5 k2
      subst e1
      have hl : us.length = n := by rw [← e2.length, e3]
      have hload : (loadCells ⟨X, o, none⟩ n).run P w = .ok us.toArray w := by
        rw [← hl]
        exact run_loadCells_list w ⟨X, o, none⟩ us fun j v hj => by rw [Addr.add_none]; exact e4 j v hj
      refine ⟨.agg us.toArray :: vs, ?_, .cons (.agg e2) g2⟩
      have h1 : (resOne tmps (.cell a t)).run P w = .ok (.agg us.toArray) w := by
        simp only [resOne, hu, Sem.run_bind, run_asAddr, Result.andThen_ok, loadVar, hE.ty.runAgg h2, if_true, hE.ty.runSize h3, hload, Sem.run_pure]
      simp only [List.mapM_cons, Sem.run_bind, h1, Sem.run_pure, Result.andThen_ok, g1]
    | false =>
      obtain ⟨v, h5, h⟩ := bnd_eq_some h
      cases h
      obtain ⟨X, o, z, e1, e2, e3⟩ := gread1_rel hR h5 k2
      subst e1
      refine ⟨z :: vs, ?_, .cons e2 g2⟩
      have h1 : (resOne tmps (.cell a t)).run P w = .ok z w := by
        simp only [resOne, hu, Sem.run_bind, run_asAddr, Result.andThen_ok, loadVar, hE.ty.runAgg h2, Bool.false_eq_true, if_false, run_load, e3]
      simp only [List.mapM_cons, Sem.run_bind, h1, Sem.run_pure, Result.andThen_ok, g1]

theorem results_rel {E : Env} (hE : EnvOk P E) (hR : Rel E.G B s β ro w) {T : Tmps} {tmps : Array Value} (hT : TRel β w ro T tmps) {fn : Func} {l : List AV} (h : resA E T s fn.results.toList = some l) :
    ∃ v, (results fn tmps).run P w = .ok v w ∧ VR β w ro (tupled l) v := by
  obtain ⟨vs, h1, h2⟩ := resA_rel hE hR hT h
  have hm : (fn.results.mapM (resOne tmps)).run P w = .ok vs.toArray w := by
    rw [Array.mapM_eq_mapM_toList]
    simp only [Sem.run_map, h1]
    rfl
  refine ⟨if h : vs.toArray.size = 1 then vs.toArray[0] else .tuple vs.toArray, ?_, ?_⟩
  · rw [results_def]
    simp only [Sem.run_bind, hm, Sem.run_pure, Result.andThen_ok]
  · cases h2 with
    | nil => exact .tuple .nil
    | @cons a v as vs' g1 g2 =>
      cases g2 with
      | nil => exact g1
      | cons g2 g3 => exact .tuple (.cons g1 (.cons g2 g3))
end
end Go.Vt
namespace Go.Vt
open Go.RowKit (Below)
section
variable {P : Program} {E : Env} {rec : Ev} {B : Nat} {s s' s'' : St} {β β' β'' : Beta} {ro ro' ro'' : Ro} {w w' w'' : World}

/-! # Functions with a body -/
theorem leaves_ok (hE : EnvOk P E) {fn : Func} {T' : Tmps} {tmps : Array Value} {l : List AV} (hl : resA E T' s' fn.results.toList = some l) {n : Nat} : ∀ (Ds : List Nat) (w' : World), MarksOk β' w' w.heap.size Ds → Step E.G B s β ro w s' β' ro' w' → TRel β' w' ro' T' tmps →
    LeavesInM (FW none) n P fn tmps (CRes E.G B s β ro w s' (tupled l)) (mkMarks Ds) .returning w'
  | [], w', _, hst, hT => by
    obtain ⟨v, h1, h2⟩ := results_rel hE hst.rel hT hl
    exact ⟨v, h1, v, β', ro', rfl, h2, hst⟩
  | D :: Ds, w', hM, hst, hT => by
    obtain ⟨h1, h2, h3⟩ := hM.ok D (by simp)
    have hnc : ∀ arr t f, w'.heap[D]? ≠ some (.cells arr t f) := by intro a b c hc; rw [h2] at hc; cases hc
    refine ⟨by simp, .inl ⟨D, w'.putObj D (.deferred none), rfl, run_takeDeferred h2, ?_⟩⟩
    refine leaves_ok hE hl Ds _ ⟨(List.nodup_cons.1 hM.nodup).2, fun D' hD' => ?_⟩ (hst.putNew h1 hnc h3) (hT.putNew hnc)
    obtain ⟨k1, k2, k3⟩ := hM.ok D' (by simp [hD'])
    have hne : D' ≠ D := by rintro rfl; exact (List.nodup_cons.1 hM.nodup).1 hD'
    exact ⟨k1, (World.putObj_heap_other hne).trans k2, k3⟩

/-- the body of a function, walked -/
def BPost (E : Env) (B : Nat) (s : St) (β : Beta) (ro : Ro) (w : World) (c : Code) (rs : List ResultVar) (v : AV) (s' : St) (e : Exit) (a' : Act) (w' : World) : Prop :=
  (e = .normal ∨ e = .ret) ∧ ∃ β' ro' Ds T' l, a'.defers = mkMarks Ds ∧ MarksOk β' w' w.heap.size Ds ∧ (noRange c = true → Ds = []) ∧ TRel β' w' ro' T' a'.tmps ∧ resA E T' s' rs = some l ∧ v = tupled l ∧ Step E.G B s β ro w s' β' ro' w'
theorem body_wp (hE : EnvOk P E) (hrec : CodeOk P E rec) {f : Nat} {fn : Func} {c : Code} (hf : E.funcs.get f = some fn) (hb : fn.body = some c) {args : List AV} {v : AV} (h : evBody E rec fn c args s = some (v, s')) {vs : List Value}
    (hR : Rel E.G B s β ro w) (hB : B ≤ w.heap.size) (hv : VRs β w ro args vs) (n : Nat) :
    c.wpIn (FW none) n P (BPost E B s β ro w c fn.results.toList v s') { tmps := vs.toArray ++ Array.replicate (fn.ntmps - vs.toArray.size) undef, defers := [] } w := by
  obtain ⟨⟨x, T', s1⟩, h1, h⟩ := bnd_eq_some h
  have hT : TRel β w ro (Tr.putFrom args .leaf 0) (vs.toArray ++ Array.replicate (fn.ntmps - vs.toArray.size) undef) := by
    intro k a hk
    rw [Tr.get_putFrom] at hk
    split at hk
    · rename_i hc
      obtain ⟨u, g1, g2⟩ := hv.get hk
      refine ⟨u, ?_, g2⟩
      have hlt : k - 0 < vs.length := (List.getElem?_eq_some_iff.1 g1).1
      rw [Array.getElem?_append_left (by simpa using hlt)]
      simpa using g1
    · simp [Tr.get_leaf] at hk
  have hw := hrec c _ s x T' s1 h1 none B β ro w { tmps := vs.toArray ++ Array.replicate (fn.ntmps - vs.toArray.size) undef, defers := [] } fn.ntmps n (hE.dst f fn c hf hb) (fun h => by cases h)
    (by simp; omega) hR hB hT
  refine wpIn_mono hw ?_
  rintro e a' w' ⟨rfl, β', ro', Ds, g1, g2, g3, g4, g5, g6⟩
  simp only [List.append_nil] at g2
  have key : (x = .normal ∨ x = .ret) ∧ ∃ l, resA E T' s1 fn.results.toList = some l ∧ v = tupled l ∧ s' = s1 := by
    cases x with
    | normal =>
      have h : (bnd (resA E T' s1 fn.results.toList) fun l => some (tupled l, s1)) = some (v, s') := h
      obtain ⟨l, k1, k2⟩ := bnd_eq_some h
      cases k2; exact ⟨.inl rfl, l, k1, rfl, rfl⟩
    | ret =>
      have h : (bnd (resA E T' s1 fn.results.toList) fun l => some (tupled l, s1)) = some (v, s') := h
      obtain ⟨l, k1, k2⟩ := bnd_eq_some h
      cases k2; exact ⟨.inr rfl, l, k1, rfl, rfl⟩
    | exit i => cases h
    | goto i => cases h
  obtain ⟨hx, l, k1, k2, rfl⟩ := key
  refine ⟨?_, β', ro', Ds, T', l, g2, g3, g4, g5, k1, k2, g6⟩
  rcases hx with rfl | rfl
  · exact .inl rfl
  · exact .inr rfl
theorem evBody_ok (hE : EnvOk P E) (hrec : CodeOk P E rec) {f : Nat} {fn : Func} {c : Code} (hf : E.funcs.get f = some fn) (hb : fn.body = some c) {args : List AV} {v : AV} (h : evBody E rec fn c args s = some (v, s')) {vs : List Value}
    (hR : Rel E.G B s β ro w) (hB : B ≤ w.heap.size) (hv : VRs β w ro args vs) : CallsIn (FW none) 0 P f vs.toArray w (CRes E.G B s β ro w s' v) := by
  refine callsIn_of_wp_marks (hE.funcs f fn hf) hb trivial (wpIn_mono (body_wp hE hrec hf hb h hR hB hv 0) ?_)
  rintro e a' w' ⟨he, β', ro', Ds, T', l, g2, g3, g4, g5, k1, rfl, g6⟩
  have := leaves_ok (P := P) (n := 0) hE k1 Ds w' g3 g6 g5
  rcases he with rfl | rfl
  · show LeavesInM _ _ _ _ _ _ a'.defers _ _
    rw [g2]; exact this
  · show LeavesInM _ _ _ _ _ _ a'.defers _ _
    rw [g2]; exact this

theorem run_enter (hE : EnvOk P E) {f : Nat} {fn : Func} {c : Code} (hf : E.funcs.get f = some fn) (hb : fn.body = some c) (as : Array Value) (w : World) : (callFunc f as).run P w = .ok (.enter f as) w := by
  have h1 : fn.name ≠ "runtime.NumGoroutine" := by simpa using hE.named f fn hf
  simp [callFunc, hE.funcs f fn hf, h1, hb]

theorem evFun0_ok (hE : EnvOk P E) (hrec : CodeOk P E rec) : CallOk P E.G (evFun0 E rec) := by
  intro f args s v s' h B β ro w vs hR hB hv
  obtain ⟨fn, hf, h⟩ := bnd_eq_some h
  cases hb : fn.body with
  | none =>
    rw [hb] at h
    have h : (bnd (E.prim f) fun p => evPrim E.G p args s) = some (v, s') := h
    obtain ⟨p, hp, h⟩ := bnd_eq_some h
    obtain ⟨g1, e, g2, g3⟩ := hE.prims f fn p hf hp hb
    obtain ⟨u, β', ro', w', k1, k2, k3⟩ := evPrim_ok g3 h hR hB hv
    refine ⟨.value u, w', ?_, .inl ⟨u, β', ro', .inl rfl, k2, k3⟩⟩
    rw [run_callFunc_extern (hE.funcs f fn hf) (hE.named f fn hf) (by simp [hb]) g1 g2, k1]; rfl
  | some c =>
    rw [hb] at h
    have h : evBody E rec fn c args s = some (v, s') := h
    exact ⟨_, _, run_enter hE hf hb _ w, .inr (.inl ⟨f, _, rfl, rfl, evBody_ok hE hrec hf hb h hR hB hv⟩)⟩

/-! ## Known calls -/
theorem Later.step (hR : Rel E.G B s β ro w) (h : Later ro w ro' w') : Step E.G B s β ro w s β ro' w' := by
  have e : Evo β w ro β w' ro' := ⟨fun _ _ h => h, h.more, fun X o v hX hc => by rw [cell?_of_heap (h.heap X (hR.sealedRoom X o hX))]; exact hc⟩
  exact {
    rel := {
      freshB := hR.freshB
      room := fun b r hb => ⟨(hR.room b r hb).1, Nat.lt_of_lt_of_le (hR.room b r hb).2 h.size⟩
      obj := fun b x r hx hb => (hR.obj b x r hx hb).evo e (h.heap _ (hR.room b r hb).2) fun _ _ _ _ _ hc => by
        rcases h.only _ _ hc with hc | hc
        · exact hc
        · have := (hR.room b r hb).2; omega
      sep := hR.sep, solo := hR.solo, ancs := hR.ancs
      sealedRoom := h.room
      glob := fun g cs hg => let ⟨vs, h1, h2⟩ := hR.glob g cs hg; ⟨vs, h1.evo e, h2.evo e⟩ }
    evo := e
    size := h.size, os := h.os, tape := h.tape, output := h.output
    frame := fun X hX _ => h.heap X hX
    nx := Nat.le_refl _
    tl := ⟨[], rfl, by simp, fun _ _ => rfl⟩
    newB := fun _ _ h => .inl h
    newRo := fun X o hX => (h.only X o hX).imp id .inl }

theorem withFacts_ok (hE : EnvOk P E) {run : Nat → List AV → St → Res} (hrun : CallOk P E.G run) : CallOk P E.G (withFacts E run) := by
  intro f args s v s' h B β ro w vs hR hB hv
  unfold withFacts at h
  cases hF : E.facts f with
  | nil =>
    rw [hF, lrec_nil] at h
    exact hrun f args s v s' h B β ro w vs hR hB hv
  | cons x l =>
    rw [hF, lrec_cons] at h
    cases hs : sealStep (sealA 40) args s with
    | none =>
      rw [hs, orec_none] at h
      exact hrun f args s v s' h B β ro w vs hR hB hv
    | some p =>
      rw [hs, orec_some] at h
      cases hff : findFact p.1 (x :: l) with
      | none =>
        rw [hff, orec_none] at h
        exact hrun f args s v s' h B β ro w vs hR hB hv
      | some r =>
        rw [hff, orec_some] at h
        cases h
        have hfo := hE.facts f p.1 v (by rw [hF]; exact findFact_mem hff)
        obtain ⟨ro1, g1, g2⟩ := sealStep_ok (sealA_ok 40) args s p.1 p.2 hs B β ro w vs hR hv
        obtain ⟨k1, k2⟩ := hfo.call w ro1 vs g1.rel.sealedRoom (fun g cs hg => let ⟨vs, h1, h2⟩ := g1.rel.glob g cs hg; ⟨vs, h1.ofDeep (hE.globDeep g cs hg), h2⟩) (g2.ofDeep hfo.deepA)
        refine ⟨_, _, k1, .inr (.inl ⟨f, _, rfl, rfl, k2.mono ?_⟩)⟩
        rintro e w' ⟨u, ro', rfl, h1, h2⟩
        exact ⟨u, β, ro', rfl, h1.ofDeep hfo.deepR, g1.trans (Later.step g1.rel h2)⟩

/-! ## Calls of values -/
theorem callOf_ok (hE : EnvOk P E) {call : Nat → List AV → St → Res} (hc : CallOk P E.G call) {v r : AV} {args : List AV} (h : callOf E call v args s = some (r, s')) (hR : Rel E.G B s β ro w) (hB : B ≤ w.heap.size) {u : Value} {vs : List Value} (hu : VR β w ro v u) (hv : VRs β w ro args vs) :
    ∃ d nx w1, (Deferred.ofValue u vs.toArray).run P w = .ok d w ∧ (invoke d.target d.args).run P w = .ok nx w1 ∧ Gets P E.G B s β ro w s' r nx w1 := by
  unfold callOf at h
  split at h
  · rename_i f first cap
    cases hu with
    | @func _ _ _ f' c' hf' hc' =>
    obtain ⟨nx, w1, h1, h2⟩ := hc f _ s r s' h B β ro w ((f' ++ vs) ++ c') hR hB ((hf'.append hv).append hc')
    refine ⟨_, nx, w1, rfl, ?_, h2⟩
    have e : (f'.toArray ++ vs.toArray ++ c'.toArray) = ((f' ++ vs) ++ c').toArray := by simp
    show (callFunc f (f'.toArray ++ vs.toArray ++ c'.toArray)).run P w = _
    rw [e]; exact h1
  · rename_i name t b o
    obtain ⟨f, hm, h⟩ := bnd_eq_some h
    cases hu with
    | @func _ _ _ f' c' hf' hc' =>
    cases hf' with
    | cons hi hf' =>
    cases hf'
    cases hc'
    cases hi with
    | iface hp =>
    cases hp with
    | @ptr _ _ rf hb =>
    obtain ⟨nx, w1, h1, h2⟩ := hc f _ s r s' h B β ro w (.pointer (some ⟨rf.blk, rf.off + o, none⟩) :: vs) hR hB (.cons (.ptr hb) hv)
    refine ⟨_, nx, w1, rfl, ?_, h2⟩
    have hmeth := (hE.meth.find t name f hm ⟨rf.blk, rf.off + o, none⟩ w).1
    have e : ∀ x : Value, (#[x] ++ vs.toArray).extract 1 (#[x] ++ vs.toArray).size = vs.toArray := by
      intro x
      apply Array.ext'
      simp
    have h0 : ∀ x : Value, (#[x] ++ vs.toArray)[0]? = some x := by intro x; simp
    show (invoke (.fn (.method name) #[]) (#[Value.iface t (.pointer (some ⟨rf.blk, rf.off + o, none⟩))] ++ vs.toArray)).run P w = _
    simp only [invoke, h0, e]
    simp only [callMethod, Sem.run_bind, run_program, Result.andThen_ok, hmeth]
    have e2 : (#[Value.pointer (some ⟨rf.blk, rf.off + o, none⟩)] ++ vs.toArray) = (Value.pointer (some ⟨rf.blk, rf.off + o, none⟩) :: vs).toArray := by simp
    rw [e2]; exact h1
  · cases h
end
end Go.Vt
namespace Go.Vt
section
variable {P : Program} {E : Env} {rec : Ev} {B : Nat} {s s' s'' : St} {β β' β'' : Beta} {ro ro' ro'' : Ro} {w w' w'' : World}

/-! # A round of a loop over a function -/
theorem loopOf_some {l st : Nat} {q : Tr AV × List Nat × Code × Code} (h : loopOf s l st = some q) : s.h.get l = some (.loop st q.1 q.2.1 q.2.2.1 q.2.2.2 none) := by
  obtain ⟨o, h1, h⟩ := bnd_eq_some h
  cases o <;> first | (cases h; done) | skip
  rename_i k T ps a b pd
  cases pd with
  | some _ => cases h
  | none =>
    obtain ⟨h2, h⟩ := iff'_some h
    cases h
    have h2 := Nat.eq_of_beq_eq_true h2
    subst h2
    exact h1

theorem putPs_rel : ∀ {ps : List Nat} {as : List AV} {T T1 : Tmps} {vs : List Value} {tmps : Array Value}, putPs T ps as = some T1 → TRel β w ro T tmps → VRs β w ro as vs → (∀ p ∈ ps, p < tmps.size) →
    ps.length = vs.length ∧ TRel β w ro T1 ((ps.zip vs).foldl (fun t (p, v) => t.setIfInBounds p v) tmps) ∧ ((ps.zip vs).foldl (fun t (p, v) => t.setIfInBounds p v) tmps).size = tmps.size
  | [], [], T, T1, vs, tmps, h, hT, hv, _ => by
    cases h; cases hv; exact ⟨rfl, hT, rfl⟩
  | p :: ps, a :: as, T, T1, vs, tmps, h, hT, hv, hp => by
    cases hv with
    | @cons _ v _ vs h1 h2 =>
    have hT' : TRel β w ro (T.set p a) (tmps.setIfInBounds p v) := by
      intro k x hk
      rw [Tr.get_set] at hk
      by_cases e : k = p
      · subst e
        rw [if_pos rfl] at hk; cases hk
        exact ⟨v, by rw [Array.getElem?_setIfInBounds_self_of_lt (hp _ (by simp))], h1⟩
      · rw [if_neg e] at hk
        obtain ⟨u, g1, g2⟩ := hT k x hk
        exact ⟨u, by rw [Array.getElem?_setIfInBounds_ne (Ne.symm e)]; exact g1, g2⟩
    obtain ⟨g1, g2, g3⟩ := putPs_rel (ps := ps) (as := as) h hT' h2 (fun q hq => by simp; exact hp q (by simp [hq]))
    exact ⟨by simp [g1], g2, by simpa using g3⟩
  | [], _ :: _, _, _, _, _, h, _, _, _ => by cases h
  | _ :: _, [], _, _, _, _, h, _, _, _ => by cases h

theorem evRound_ok (hrec : CodeOk P E rec) {l : Nat} {args : List AV} {v : AV} (h : evRound rec l args s = some (v, s')) (hR : Rel E.G B s β ro w) (hB : B ≤ w.heap.size) {r : Ref} (hb : β l = some r) {vs : List Value} (hv : VRs β w ro args vs) :
    ∃ nx, (invoke (.fn (.yield r.blk) #[]) vs.toArray).run P w = .ok nx w ∧ Gets P E.G B s β ro w s' v nx w := by
  obtain ⟨q, h1, h⟩ := bnd_eq_some h
  obtain ⟨T1, h2, h⟩ := bnd_eq_some h
  obtain ⟨⟨x, T2, s1⟩, h3, h⟩ := bnd_eq_some h
  obtain ⟨L, g1, g2, g3, g4, g5, g6, g7, g8, g9, g10, g11, g12⟩ := hR.obj l _ r (loopOf_some h1) hb
  obtain ⟨k1, k2, k3⟩ := putPs_rel h2 g7 hv (by rw [← g4]; exact g12)
  have hsz : vs.toArray.size = L.params.size := by
    rw [← g4] at k1; simpa using k1.symm
  have hy := run_yield (P := P) g1 hsz
  have hfold : (L.params.zip vs.toArray).foldl (fun tmps (t, a) => tmps.setIfInBounds t a) L.tmps = (q.2.1.zip vs).foldl (fun t (p, v) => t.setIfInBounds p v) L.tmps := by
    rw [← Array.foldl_toList, ← g4]
    simp
  have hy' : (invoke (.fn (.yield r.blk) #[]) vs.toArray).run P w = _ := hy
  refine ⟨_, hy', .inr (.inr ⟨_, _, _, _, _, rfl, rfl, ?_⟩)⟩
  match x, h, h3 with
  | .normal, h, h3 =>
  obtain ⟨q1, h4, h⟩ := bnd_eq_some h
  obtain ⟨⟨x2, T3, s2⟩, h5, h⟩ := bnd_eq_some h
  obtain ⟨q2, h6, h⟩ := bnd_eq_some h
  have hl1 : ∀ {β1 : Beta} {ro1 : Ro} {w1 : World}, Step E.G B s β ro w s1 β1 ro1 w1 → ∃ L1, w1.heap[r.blk]? = some (.loop L1) ∧ L1.state = .ready ∧ L1.pending = none ∧ Step E.G B s β ro w (setObj s1 l (.loop 1 q1.1 q1.2.1 q1.2.2.1 q1.2.2.2 none)) β1 ro1 (w1.putObj r.blk (.loop { L1 with state := .busy })) := by
    intro β1 ro1 w1 hst
    have hb1 := hst.evo.beta l r hb
    obtain ⟨L1, a1, a2, a3, a4, a5, a6, a7, a8⟩ := hst.rel.obj l _ r (loopOf_some h4) hb1
    refine ⟨L1, a1, a2, a3, hst.trans (Step.putObj hst.rel (loopOf_some h4) rfl hb1 (.inl rfl) _ fun ev hh => ⟨_, hh, rfl, a3, a4, a5, a6, a7.evo ev, a8⟩)⟩
  rw [hfold]
  refine roundIn_of_wpIn trivial ?_
  have hassign := hrec q.2.2.1 T1 s .normal T2 s1 h3 (some r.blk) B β ro w { tmps := (q.2.1.zip vs).foldl (fun t (p, v) => t.setIfInBounds p v) L.tmps, defers := [] } L.tmps.size 0
    (by rw [← g5]; exact g8) (fun _ => by rw [← g5]; exact g10) (by rw [k3]; exact Nat.le_refl _) hR hB k2
  rw [g5]
  refine wpIn_mono hassign ?_
  rintro e a1 w1 ⟨rfl, β1, ro1, Ds, m1, m2, m3, m4, m5, m6⟩
  obtain ⟨L1, n1, n2, n3, n4⟩ := hl1 m6
  refine ⟨_, run_beginRound n1 n2, ?_⟩
  have hbody := hrec q.2.2.2 T2 _ x2 T3 s2 h5 (some r.blk) B β1 ro1 _ a1 L.tmps.size 0 (by rw [← g6]; exact g9) (fun _ => by rw [← g6]; exact g11) (by rw [m1, k3]; exact Nat.le_refl _) n4.rel (Nat.le_trans hB n4.size)
    (m5.evo (Evo.putObj (by intro a b c hc; rw [n1] at hc; cases hc)))
  rw [g6]
  refine wpIn_mono hbody ?_
  rintro e a2 w2 ⟨rfl, β2, ro2, Ds2, p1, p2, p3, p4, p5, p6⟩
  have hst2 := n4.trans p6
  have hb2 := hst2.evo.beta l r hb
  obtain ⟨L2, a1', a2', a3', a4', a5', a6', a7', a8'⟩ := hst2.rel.obj l _ r (loopOf_some h6) hb2
  have fin : ∀ (jump : Option Code) (st : Nat) (hs : loopState st = if jump.isNone then .ready else .done), Step E.G B s β ro w (setObj s2 l (.loop st q2.1 q2.2.1 q2.2.2.1 q2.2.2.2 jump)) β2 ro2 (w2.putObj r.blk (.loop { L2 with state := if jump.isNone then .ready else .done, pending := jump })) :=
    fun jump st hs => hst2.trans (Step.putObj hst2.rel (loopOf_some h6) rfl hb2 (.inl rfl) _ fun ev hh => ⟨_, hh, hs.symm, rfl, a4', a5', a6', a7'.evo ev, a8'⟩)
  cases x2 with
  | normal => cases h; exact ⟨_, _, run_endRound none a1', .bool true, β2, ro2, rfl, .bool true, fin none 0 rfl⟩
  | ret => cases h; exact ⟨_, _, run_endRound (some .ret) a1', .bool false, β2, ro2, rfl, .bool false, fin (some .ret) 2 rfl⟩
  | exit i => cases h; exact ⟨_, _, run_endRound (some (.exit i)) a1', .bool false, β2, ro2, rfl, .bool false, fin (some (.exit i)) 2 rfl⟩
  | goto i => cases h; exact ⟨_, _, run_endRound (some (.goto i)) a1', .bool false, β2, ro2, rfl, .bool false, fin (some (.goto i)) 2 rfl⟩

/-! ## Calls in an operation -/
def FunOk (P : Program) (E : Env) (rec : Ev) : Prop := CallOk P E.G (evCall E rec)
theorem evCallv_ok (hE : EnvOk P E) (hrec : CodeOk P E rec) (hfun : FunOk P E rec) {v r : AV} {args : List AV} (h : evCallv E rec v args s = some (r, s')) (hR : Rel E.G B s β ro w) (hB : B ≤ w.heap.size) {u : Value} {vs : List Value} (hu : VR β w ro v u) (hv : VRs β w ro args vs) :
    ∃ d nx w1, (Deferred.ofValue u vs.toArray).run P w = .ok d w ∧ (invoke d.target d.args).run P w = .ok nx w1 ∧ Gets P E.G B s β ro w s' r nx w1 := by
  unfold evCallv at h
  split at h
  · rename_i l
    cases hu with
    | @yield _ rf hb =>
    obtain ⟨nx, h1, h2⟩ := evRound_ok hrec h hR hB hb hv
    refine ⟨_, nx, w, rfl, ?_, h2⟩
    have e : (#[] ++ vs.toArray) = vs.toArray := by simp
    show (invoke (.fn (.yield rf.blk) #[]) (#[] ++ vs.toArray)).run P w = _
    rw [e]; exact h1
  · exact callOf_ok hE hfun h hR hB hu hv
theorem evInvoke_ok (hE : EnvOk P E) (hfun : FunOk P E rec) {v r : AV} {name : String} {args : List AV} (h : evInvoke E rec v name args s = some (r, s')) (hR : Rel E.G B s β ro w) (hB : B ≤ w.heap.size) {u : Value} {vs : List Value} (hu : VR β w ro v u) (hv : VRs β w ro args vs) :
    ∃ nx w1, (invoke (.fn (.method name) #[]) (#[u] ++ vs.toArray)).run P w = .ok nx w1 ∧ Gets P E.G B s β ro w s' r nx w1 := by
  unfold evInvoke at h
  split at h
  · rename_i t b o
    obtain ⟨f, hm, h⟩ := bnd_eq_some h
    cases hu with
    | iface hp =>
    cases hp with
    | @ptr _ _ rf hb =>
    obtain ⟨nx, w1, h1, h2⟩ := hfun f _ s r s' h B β ro w (.pointer (some ⟨rf.blk, rf.off + o, none⟩) :: vs) hR hB (.cons (.ptr hb) hv)
    refine ⟨nx, w1, ?_, h2⟩
    have hmeth := (hE.meth.find t name f hm ⟨rf.blk, rf.off + o, none⟩ w).1
    have e : ∀ x : Value, (#[x] ++ vs.toArray).extract 1 (#[x] ++ vs.toArray).size = vs.toArray := by
      intro x
      apply Array.ext'
      simp
    have h0 : ∀ x : Value, (#[x] ++ vs.toArray)[0]? = some x := by intro x; simp
    simp only [invoke, h0, e]
    simp only [callMethod, Sem.run_bind, run_program, Result.andThen_ok, hmeth]
    have e2 : (#[Value.pointer (some ⟨rf.blk, rf.off + o, none⟩)] ++ vs.toArray) = (Value.pointer (some ⟨rf.blk, rf.off + o, none⟩) :: vs).toArray := by simp
    rw [e2]; exact h1
  · cases h

theorem put1_some {dst : Option Nat} {T T' : Tmps} {r : Res} (h : put1 dst T r = some (T', s')) : ∃ v, r = some (v, s') ∧ T' = putT T dst v := by
  obtain ⟨⟨v, s1⟩, h1, h⟩ := bnd_eq_some h
  cases h
  exact ⟨v, h1, rfl⟩

theorem map_evs {xs : Array Operand} {a : Act} : xs.map a.eval = (xs.toList.map a.eval).toArray := by apply Array.ext'; simp

theorem coOf_ok (hE : EnvOk P E) (hrec : CodeOk P E rec) (hfun : FunOk P E rec) {o : Oper} {c : COp} (hc : OpOk P E.G o c) {T T' : Tmps} (h : coOf E o.dst c rec T s = some (T', s')) (hR : Rel E.G B s β ro w) (hB : B ≤ w.heap.size) {a : Act} (hT : TRel β w ro T a.tmps) :
    ∃ v nx w1, T' = putT T o.dst v ∧ (execOp a.eval o).run P w = .ok nx w1 ∧ Gets P E.G B s β ro w s' v nx w1 := by
  cases c with
  | op k f =>
    obtain ⟨v, h1, rfl⟩ := put1_some h
    have hh : HardOk P E.G f o := by
      cases k with
      | quiet => exact (QuietOk.reads hc).hard
      | reads => exact ReadsOk.hard hc
      | lays => exact LaysOk.hard hc
      | hard => exact hc
    obtain ⟨nx, u, β', ro', w', g1, g2, g3, g4⟩ := hh B T s v s' h1 β ro w a hR hB hT
    exact ⟨v, nx, w', rfl, g1, .inl ⟨u, β', ro', g2, g4, g3⟩⟩
  | call f as =>
    obtain ⟨args, ts, ho, hc⟩ := hc
    obtain ⟨vs, h1, h⟩ := bnd_eq_some h
    obtain ⟨v, h2, rfl⟩ := put1_some h
    have hv := evs_rel hT hc h1
    obtain ⟨nx, w1, g1, g2⟩ := hfun f vs s v s' h2 B β ro w _ hR hB hv
    refine ⟨v, nx, w1, rfl, ?_, g2⟩
    rw [← map_evs] at g1
    have e : (#[] ++ args.map a.eval) = args.map a.eval := by simp
    have e2 : (args.map a.eval ++ #[]) = args.map a.eval := by simp
    simp only [execOp, ho, resolve, Sem.run_bind]
    show ((invoke (.fn (.func f) #[]) (#[] ++ args.map a.eval)).run P w) = _
    rw [e]
    show (callFunc f (args.map a.eval ++ #[])).run P w = _
    rw [e2]; exact g1
  | callv x as =>
    obtain ⟨y, args, ts, ho, hx, hc⟩ := hc
    obtain ⟨q, h0, h⟩ := bnd_eq_some h
    obtain ⟨vs, h1, h⟩ := bnd_eq_some h
    obtain ⟨v, h2, rfl⟩ := put1_some h
    have hv := evs_rel hT hc h1
    obtain ⟨d, nx, w1, g0, g1, g2⟩ := evCallv_ok hE hrec hfun h2 hR hB (ev1_rel hT hx h0) hv
    refine ⟨v, nx, w1, rfl, ?_, g2⟩
    rw [← map_evs] at g0
    simp only [execOp, ho, resolve, Sem.run_bind, g0, Result.andThen_ok, g1]
  | invoke x name as =>
    obtain ⟨y, args, ts, ho, hx, hc⟩ := hc
    obtain ⟨q, h0, h⟩ := bnd_eq_some h
    obtain ⟨vs, h1, h⟩ := bnd_eq_some h
    obtain ⟨v, h2, rfl⟩ := put1_some h
    have hv := evs_rel hT hc h1
    obtain ⟨nx, w1, g1, g2⟩ := evInvoke_ok hE hfun h2 hR hB (ev1_rel hT hx h0) hv
    refine ⟨v, nx, w1, rfl, ?_, g2⟩
    rw [← map_evs] at g1
    simp only [execOp, ho, resolve, Sem.run_bind, Sem.run_pure, Result.andThen_ok, g1]

/-! ## Operations in a region -/
theorem putT_rel {T : Tmps} {a : Act} (hT : TRel β w ro T a.tmps) {dst : Option Nat} (hd : dstO a.tmps.size dst = true) {v : AV} {u : Value} (hv : VR β w ro v u) : TRel β w ro (putT T dst v) (a.put dst u).tmps := by
  cases dst with
  | none => exact hT
  | some d =>
    intro k x hk
    have hk : ((Tr.sr d).f v T).get k = some x := hk
    rw [Tr.sr_get] at hk
    by_cases e : k = d
    · subst e
      rw [if_pos rfl] at hk; cases hk
      exact ⟨u, by show (a.tmps.setIfInBounds k u)[k]? = _; rw [Array.getElem?_setIfInBounds_self_of_lt (blt_true hd)], hv⟩
    · rw [if_neg e] at hk
      obtain ⟨z, g1, g2⟩ := hT k x hk
      exact ⟨z, by show (a.tmps.setIfInBounds d u)[k]? = _; rw [Array.getElem?_setIfInBounds_ne (Ne.symm e)]; exact g1, g2⟩
theorem put_size (a : Act) (dst : Option Nat) (u : Value) : (a.put dst u).tmps.size = a.tmps.size := by cases dst <;> simp [Act.put]
theorem put_defers' (a : Act) (dst : Option Nat) (u : Value) : (a.put dst u).defers = a.defers := by cases dst <;> rfl

theorem gets_upon {rd : Option Nat} {n : Nat} {o : Oper} {a : Act} {next : Act → World → Prop} {Q : Exit → Act → World → Prop} {v : AV} {nx : Next} {w1 : World} (h : Gets P E.G B s β ro w s' v nx w1)
    (hn : ∀ u β' ro' w', VR β' w' ro' v u → Step E.G B s β ro w s' β' ro' w' → next (a.put o.dst u) w') : o.uponIn (FW rd) n P a next Q (.ok nx w1) := by
  rcases h with ⟨u, β', ro', hg, h1, h2⟩ | ⟨f, as, rfl, rfl, h⟩ | ⟨l, f, tmps, as, bd, rfl, rfl, h⟩
  · rcases hg with rfl | ⟨rfl, rfl⟩
    · exact hn u β' ro' w1 h1 h2
    · exact hn undef β' ro' w1 h1 h2
  · refine ⟨fun hc => (by cases hc), CallsIn.mono (CallsIn.free h (n - 1)) ?_⟩
    rintro e w2 ⟨u, β', ro', rfl, h1, h2⟩
    exact hn u β' ro' w2 h1 h2
  · refine ⟨fun hc => (by cases hc), RoundIn.mono (R := CRes E.G B s β ro w1 s' v) ⟨trivial, fun c cs _ => h.2 c cs fun _ hd => by cases hd⟩ ?_⟩
    rintro e w2 ⟨u, β', ro', rfl, h1, h2⟩
    exact hn u β' ro' w2 h1 h2

theorem cOp_plain {G : Glob} {T0 : TT} {F : Nat → Option (List Nat)} {M : Nat → String → Option Nat} {A : Tabs} {o : Oper} {c : COp} (h : cOp G T0 F M A o = some c) : ∀ d, o.op ≠ .defer d := by
  intro d hd
  unfold cOp at h
  rw [hd] at h
  cases h

def asB : Value → Option Bool
  | .bool b => some b
  | _ => none
/-- one operation, guard and all -/
theorem oper_ok (hE : EnvOk P E) (hrec : CodeOk P E rec) (hfun : FunOk P E rec) {all : Array Oper} {o : Oper} {co : CO} (hco : cOper E all o = some co) {T T' : Tmps} (h : co.run rec T s = some (T', s')) (hR : Rel E.G B s β ro w) (hB : B ≤ w.heap.size) {a : Act} (hT : TRel β w ro T a.tmps) (hd : dstO a.tmps.size o.dst = true)
    {rd : Option Nat} {n : Nat} {next : Act → World → Prop} {Q : Exit → Act → World → Prop}
    (hn : ∀ a' β' ro' w', a'.tmps.size = a.tmps.size → a'.defers = a.defers → TRel β' w' ro' T' a'.tmps → Step E.G B s β ro w s' β' ro' w' → next a' w') :
    if Region.wanted o (yielded all a.tmps) = true then o.wpIn (FW rd) n P a w next Q else (∀ f, o.about P w a.eval = some f → (FW rd).fn f) ∧ next (a.put o.dst undef) w := by
  unfold cOper at hco
  cases hc : cOp E.G E.T E.F E.M E.A o with
  | none => rw [hc] at hco; cases hco
  | some c =>
    rw [hc] at hco
    have hop := cOp_ok hE.ty hE.flat hE.meth hE.asst hc
    have hplain := cOp_plain hc
    -- carried out
    have main : coOf E o.dst c rec T s = some (T', s') → o.wpIn (FW rd) n P a w next Q := by
      intro h
      obtain ⟨v, nx, w1, rfl, g1, g2⟩ := coOf_ok hE hrec hfun hop h hR hB hT
      refine ⟨fun _ _ => trivial, ?_⟩
      rw [Oper.semAt_eq _ _ _ hplain, g1]
      exact gets_upon g2 fun u β' ro' w' k1 k2 => hn _ β' ro' w' (put_size _ _ _) (put_defers' _ _ _) (putT_rel (hT.evo k2.evo) hd k1) k2
    have skip : some (putT T o.dst undefA, s) = some (T', s') → (∀ f, o.about P w a.eval = some f → (FW rd).fn f) ∧ next (a.put o.dst undef) w := by
      intro h
      cases h
      exact ⟨fun _ _ => trivial, hn _ β ro w (put_size _ _ _) (put_defers' _ _ _) (putT_rel hT hd (.tuple .nil)) (.refl hR)⟩
    cases hg : o.guard with
    | none =>
      rw [hg] at hco
      cases hco
      have hw : Region.wanted o (yielded all a.tmps) = true := by simp [Region.wanted, hg]
      rw [if_pos hw]
      exact main h
    | some g =>
      obtain ⟨j, want⟩ := g
      rw [hg] at hco
      cases ht : (all[j]?).bind (·.dst) with
      | none => simp [ht] at hco
      | some t =>
        simp only [ht, Option.some.injEq] at hco
        subst hco
        obtain ⟨x, h1, h⟩ := bnd_eq_some h
        rw [Tr.gt_get] at h1
        obtain ⟨u, k1, k2⟩ := hT t x h1
        have hy : yielded all a.tmps j = asB u := by
          simp only [yielded, ht, Option.bind_some, k1]
          cases u <;> rfl
        have hwn : (∀ b, u ≠ .bool b) → ¬ Region.wanted o (yielded all a.tmps) = true := by
          intro hnb
          simp only [Region.wanted, hg, hy]
          cases u <;> first | exact absurd rfl (hnb _) | simp [asB]
        cases k2 with
        | bool b =>
          have hw : Region.wanted o (yielded all a.tmps) = (b == want) := by
            simp [Region.wanted, hg, hy, asB]
          have h : iff' (b == want) (coOf E o.dst c rec T s) (some (putT T o.dst undefA, s)) = some (T', s') := h
          cases hbw : (b == want) with
          | true => rw [hbw] at h hw; rw [if_pos hw]; exact main h
          | false =>
            rw [hbw] at h hw
            rw [if_neg (by rw [hw]; simp)]
            exact skip h
        | anyB b => cases h
        | _ => rw [if_neg (hwn (by simp))]; exact skip h

theorem evOps_ok (hE : EnvOk P E) (hrec : CodeOk P E rec) (hfun : FunOk P E rec) {all : Array Oper} {rd : Option Nat} {n : Nat} {Q : Exit → Act → World → Prop} {T' : Tmps} : ∀ (l : List Oper) (is : List Nat) {T : Tmps} {s : St} {β : Beta} {ro : Ro} {w : World} {a : Act}, is.map (all[·]?) = l.map some → evOps E rec all l T s = some (T', s') → Rel E.G B s β ro w → B ≤ w.heap.size → TRel β w ro T a.tmps →
    (l.all fun o => dstO a.tmps.size o.dst) = true →
    (∀ a' β' ro' w', a'.tmps.size = a.tmps.size → a'.defers = a.defers → TRel β' w' ro' T' a'.tmps → Step E.G B s β ro w s' β' ro' w' → Q .normal a' w') →
    wpOpsIn (FW rd) n P all Q is a w
  | [], is, T, s, β, ro, w, a, hk, h, hR, hB, hT, hd, hQ => by
    cases h
    cases is with
    | nil => exact hQ a β ro w rfl rfl hT (.refl hR)
    | cons _ _ => cases hk
  | o :: l, [], T, s, β, ro, w, a, hk, h, hR, hB, hT, hd, hQ => by cases hk
  | o :: l, i :: is, T, s, β, ro, w, a, hk, h, hR, hB, hT, hd, hQ => by
    simp only [List.map_cons, List.cons.injEq] at hk
    have hget : all[i]? = some o := hk.1
    simp only [List.all_cons, Bool.and_eq_true] at hd
    have h : orec none (fun c : CO => bnd (c.run rec T s) fun p => evOps E rec all l p.1 p.2) (cOper E all o) = some (T', s') := h
    cases hco : cOper E all o with
    | none => rw [hco] at h; cases h
    | some co =>
      rw [hco, orec_some] at h
      obtain ⟨⟨T1, s1⟩, h1, h⟩ := bnd_eq_some h
      simp only [wpOpsIn, hget]
      refine oper_ok hE hrec hfun hco h1 hR hB hT hd.1 (Q := Q) ?_
      intro a' β' ro' w' g1 g2 g3 g4
      refine evOps_ok hE hrec hfun l is hk.2 h g4.rel (Nat.le_trans hB g4.size) g3 (by rw [g1]; exact hd.2) ?_
      intro a2 β2 ro2 w2 k1 k2 k3 k4
      exact hQ a2 β2 ro2 w2 (k1.trans g1) (k2.trans g2) k3 (g4.trans k4)
end
end Go.Vt
namespace Go.Vt
section
variable {P : Program} {E : Env} {rec : Ev} {B : Nat} {s s' s'' : St} {β β' β'' : Beta} {ro ro' ro'' : Ro} {w w' w'' : World}

/-! # A range over a function -/
theorem Step.anon {G : Glob} (h : Rel G B s β ro w) (o : Obj) : Step G B s β ro w s β ro (w.alloc o) := by
  have e : Evo β w ro β (w.alloc o) ro := ⟨fun _ _ h => h, fun _ _ h => h, fun _ _ _ _ h => cell?_alloc_old o h⟩
  exact {
    rel := {
      freshB := h.freshB
      room := fun b r hb => ⟨(h.room b r hb).1, by rw [World.size_alloc]; have := (h.room b r hb).2; omega⟩
      obj := fun b x r hx hb => (h.obj b x r hx hb).evo e (heap?_alloc_old o (h.room b r hb).2) fun _ _ _ _ _ hc => hc
      sep := h.sep, solo := h.solo, ancs := h.ancs
      sealedRoom := fun X k hX => by rw [World.size_alloc]; have := h.sealedRoom X k hX; omega
      glob := fun g cs hg => let ⟨vs, h1, h2⟩ := h.glob g cs hg; ⟨vs, h1.evo e, h2.evo e⟩ }
    evo := e
    size := by rw [World.size_alloc]; omega
    os := rfl, tape := rfl, output := rfl
    frame := fun X hX _ => heap?_alloc_old o hX
    nx := Nat.le_refl _
    tl := ⟨[], rfl, by simp, fun _ _ => rfl⟩
    newB := fun _ _ h => .inl h
    newRo := fun _ _ h => .inl h }

theorem dstO_mono {N N' : Nat} (hN : N ≤ N') {d : Option Nat} (h : dstO N d = true) : dstO N' d = true := by
  cases d with
  | none => rfl
  | some d =>
    have := blt_true h
    show Nat.blt _ _ = true
    rw [Nat.blt_eq]; omega
theorem dstB_mono {N N' : Nat} (hN : N ≤ N') : ∀ {c : Code}, dstB N c = true → dstB N' c = true := by
  intro c
  induction c with
  | region id ops d =>
    intro h
    simp only [dstB, Bool.and_eq_true, List.all_eq_true] at h ⊢
    exact ⟨fun o ho => dstO_mono hN (h.1 o ho), h.2⟩
  | seq a b iha ihb => intro h; simp only [dstB, Bool.and_eq_true] at h ⊢; exact ⟨iha h.1, ihb h.2⟩
  | cond x a b iha ihb => intro h; simp only [dstB, Bool.and_eq_true] at h ⊢; exact ⟨iha h.1, ihb h.2⟩
  | block id b ih => exact ih
  | loop b ih => exact ih
  | scope b ih => exact ih
  | rangeFunc f ps a b iha ihb =>
    intro h
    simp only [dstB, Bool.and_eq_true, List.all_eq_true] at h ⊢
    refine ⟨fun p hp => ?_, iha h.2.1, ihb h.2.2⟩
    have := blt_true (h.1 p hp)
    show Nat.blt _ _ = true
    rw [Nat.blt_eq]; omega
  | _ => intro h; rfl

theorem ccRange_ok (hE : EnvOk P E) (hfun : FunOk P E rec) {g : Operand} {ps : Array Tmp} {assign body : Code} {x' : Opd} (hx : cOpd g = some x') (hnr : noRange assign = true ∧ noRange body = true) {T T' : Tmps} {x : AExit} (h : ccRange E x' ps.toList assign body rec T s = some (x, T', s'))
    {a : Act} {N n : Nat} (hd : dstB N (.rangeFunc g ps assign body) = true) (hN : N ≤ a.tmps.size) (hR : Rel E.G B s β ro w) (hB : B ≤ w.heap.size) (hT : TRel β w ro T a.tmps) :
    (Code.rangeFunc g ps assign body).wpIn (FW none) n P (CPost E.G B s β ro w (.rangeFunc g ps assign body) a x T' s') a w := by
  obtain ⟨v, h1, h⟩ := bnd_eq_some h
  have hv := ev1_rel hT hx h1
  generalize hu : a.eval g = u at hv
  match v, h, hv with
  | .func (.func gf) first cap, h, hv =>
  obtain ⟨fn, hf, h⟩ := bnd_eq_some h
  obtain ⟨hbody, h⟩ := iff'_some h
  rw [numN_eq] at h
  obtain ⟨⟨r, s3⟩, h2, h⟩ := bnd_eq_some h
  obtain ⟨o, h3, h⟩ := bnd_eq_some h
  obtain ⟨c, hc⟩ := Option.isSome_iff_exists.1 hbody
  cases hv with
  | @func _ _ _ f' c' hf' hc' =>
  refine wpIn_rangeFunc ?_
  intro fnc _
  simp only [dstB, Bool.and_eq_true, List.all_eq_true] at hd
  let L : Loop := { state := .ready, pending := none, fn := fnc, tmps := a.tmps, params := ps, assign := assign, body := body, defers := w.heap.size }
  let w1 := w.alloc (.deferred (some []))
  let w2 := w1.alloc (.loop L)
  have hs1 : Step E.G B s β ro w s β ro w1 := Step.anon hR _
  have hsz1 : w1.heap.size = w.heap.size + 1 := World.size_alloc _ _
  have hs2 := Step.new hs1.rel (Nat.le_trans hB hs1.size) (.loop 0 T ps.toList assign body none) ⟨w1.heap.size, 0, 0, 0⟩ (.loop L) rfl
    ⟨L, heap?_alloc_new _, rfl, rfl, rfl, rfl, rfl, (hT.evo hs1.evo).evo (Evo.alloc _ (hR.freshB _ (Nat.le_refl _))), dstB_mono hN hd.2.1, dstB_mono hN hd.2.2, hnr.1, hnr.2, fun p hp => Nat.lt_of_lt_of_le (blt_true (hd.1 p hp)) hN⟩ (by rintro c ⟨⟩)
  have hs12 := hs1.trans hs2
  have hb2 : (β.put s.nx ⟨w1.heap.size, 0, 0, 0⟩) s.nx = some ⟨w1.heap.size, 0, 0, 0⟩ := Beta.put_self _ _ _
  have hvs : VRs (β.put s.nx ⟨w1.heap.size, 0, 0, 0⟩) w2 ro (first ++ [.yield s.nx] ++ cap) ((f' ++ [.func (.yield w1.heap.size) #[] #[]]) ++ c') :=
    ((hf'.evo hs12.evo).append (.cons (.yield hb2) .nil)).append (hc'.evo hs12.evo)
  obtain ⟨nx, w3, k1, k2⟩ := hfun gf _ _ r s3 h2 B _ ro w2 _ hs12.rel (Nat.le_trans hB hs12.size) hvs
  have henter := run_enter hE hf hc ((f' ++ [Value.func (.yield w1.heap.size) #[] #[]]) ++ c').toArray w2
  rw [henter] at k1
  cases k1
  have hcall : CallsIn (FW none) 0 P gf ((f' ++ [Value.func (.yield w1.heap.size) #[] #[]]) ++ c').toArray w2 (CRes E.G B ⟨s.h.set s.nx (.loop 0 T ps.toList assign body none), s.nx + 1, s.nx :: s.tl⟩ (β.put s.nx ⟨w1.heap.size, 0, 0, 0⟩) ro w2 s3 r) := by
    rcases k2 with ⟨u, _, _, hg, _⟩ | ⟨f2, as2, e1, _, hcall⟩ | ⟨_, _, _, _, _, e1, _⟩
    · rcases hg with e1 | ⟨e1, _⟩ <;> cases e1
    · cases e1; exact hcall
    · cases e1
  have henl : (Instr.enterLoop fnc a.tmps ps assign body none).run P w = .ok (w1.heap.size, [{ target := .collected w.heap.size, args := #[] }]) w2 := by
    rw [run_enterLoop_outer, ← hsz1]
  refine ⟨w1.heap.size, [{ target := .collected w.heap.size, args := #[] }], w2, { target := .fn (.func gf) c'.toArray, args := f'.toArray ++ #[.func (.yield w1.heap.size) #[] #[]] }, w2, gf, _, w2, henl, ?_, fun _ _ => trivial, ?_, fun hcc => (by cases hcc), CallsIn.mono (CallsIn.free hcall (n - 1)) ?_⟩
  · simp only [resolve, hu]
    simp [Deferred.ofValue, Act.eval]
  · have e : (f'.toArray ++ #[Value.func (.yield w1.heap.size) #[] #[]]) ++ c'.toArray = ((f' ++ [Value.func (.yield w1.heap.size) #[] #[]]) ++ c').toArray := by simp
    show (callFunc gf ((f'.toArray ++ #[Value.func (.yield w1.heap.size) #[] #[]]) ++ c'.toArray)).run P w2 = _
    rw [e]; exact henter
  · rintro e w4 ⟨u4, β4, ro4, rfl, m1, m2⟩
    have hst := hs12.trans m2
    have hb4 := m2.evo.beta _ _ hb2
    have hmark : MarksOk β4 w4 w.heap.size [w.heap.size] := by
      have h0 : MarksOk β w1 w.heap.size [w.heap.size] := ⟨by simp, fun D hD => by
        simp at hD; subst hD
        exact ⟨Nat.le_refl _, heap?_alloc_new _, fun b r hb => by have := (hR.room b r hb).2; omega⟩⟩
      exact (h0.step hs2).step m2
    -- the record is taken down
    have fin : ∀ {k : Nat} {T2 : Tr AV} {p2 : List Nat} {a2 b2 : Code} {pend : Option Code}, s3.h.get s.nx = some (.loop k T2 p2 a2 b2 pend) → loopState k ≠ .busy → ∃ jump w5, (Instr.endLoop w1.heap.size).run P w4 = .ok jump w5 ∧ jump = pend ∧
        CPost E.G B s β ro w (.rangeFunc g ps assign body) a .normal T (setObj s3 s.nx .gone) .normal { a with defers := [{ target := .collected w.heap.size, args := #[] }] ++ a.defers } w5 := by
      intro k T2 p2 a2 b2 pend hget hbusy
      obtain ⟨L2, a1', a2', a3', a4', a5', a6', a7', a8'⟩ := m2.rel.obj _ _ _ hget hb4
      have hst5 := Step.putObj m2.rel hget rfl hb4 (.inr rfl) (.loop { L2 with state := .exhausted }) fun _ _ => trivial
      refine ⟨_, _, run_endLoop a1' (by rw [a2']; exact hbusy), a3', rfl, β4, ro4, [w.heap.size], rfl, rfl, ?_, fun hc => (by cases hc), ?_, hst.trans hst5⟩
      · exact hmark.step hst5
      · exact ((hT.evo hst.evo).evo hst5.evo)
    match o, h, h3 with
    | .loop 0 _ _ _ _ none, h, h3 =>
      cases h
      obtain ⟨jump, w5, g1, rfl, g2⟩ := fin h3 (by simp [loopState])
      exact ⟨_, w5, g1, g2⟩
    | .loop 2 _ _ _ _ (some .ret), h, h3 =>
      cases h
      obtain ⟨jump, w5, g1, rfl, _, g2⟩ := fin h3 (by simp [loopState])
      exact ⟨_, w5, g1, wpIn_ret ⟨rfl, g2⟩⟩
    | .loop 2 _ _ _ _ (some (.exit i)), h, h3 =>
      cases h
      obtain ⟨jump, w5, g1, rfl, _, g2⟩ := fin h3 (by simp [loopState])
      exact ⟨_, w5, g1, wpIn_exit ⟨rfl, g2⟩⟩
    | .loop 2 _ _ _ _ (some (.goto i)), h, h3 =>
      cases h
      obtain ⟨jump, w5, g1, rfl, _, g2⟩ := fin h3 (by simp [loopState])
      exact ⟨_, w5, g1, wpIn_goto ⟨rfl, g2⟩⟩
end
end Go.Vt
namespace Go.Vt
section
variable {P : Program} {G : Glob} {E : Env} {rec : Ev} {B : Nat} {s s' s'' : St} {β β' β'' : Beta} {ro ro' ro'' : Ro} {w w' w'' : World}

/-! # Two ways that meet again -/
def Wk (x y : Option AObj) : Prop := y = x ∨ y = some .gone ∨ ∃ o o', x = some (.cells o) ∧ y = some (.cells o') ∧ o'.size = o.size ∧ o'.elem = o.elem ∧ o.fz ≤ o'.fz ∧ (o'.top = true → o.top = true) ∧
  (∀ j a, j < o.size → o'.c.get j = some a → o.c.get j = some a) ∧ o'.anc = []

theorem Rel.merge (h : Rel G B s β ro w) {h' : AHeap} {nx' : Nat} {tl' : List Nat} (hnx : s.nx ≤ nx') (hk : ∀ k, Wk (s.h.get k) (h'.get k))
    (hkill : ∀ k o o', s.h.get k = some (.cells o) → h'.get k = some (.cells o') → h'.get k = s.h.get k ∨ ∀ a ∈ o.anc, h'.get a = some .gone) : Rel G B ⟨h', nx', tl'⟩ β ro w := by
  have hcells : ∀ k o', h'.get k = some (.cells o') → ∃ o, s.h.get k = some (.cells o) ∧ o'.size = o.size ∧ (o'.top = true → o.top = true) ∧ (h'.get k = s.h.get k ∨ ∀ a ∈ o.anc, h'.get a = some .gone) ∧ (o'.anc = o.anc ∨ o'.anc = []) := by
    intro k o' hg
    rcases hk k with e | e | ⟨o, o2, e1, e2, e3, e4, e5, e6, e7, e8⟩
    · have hg' := hg; rw [e] at hg; exact ⟨o', hg, rfl, id, hkill k o' o' hg hg', .inl rfl⟩
    · rw [e] at hg; cases hg
    · have hg' := hg; rw [e2] at hg; cases hg; exact ⟨o, e1, e3, e6, hkill k o _ e1 hg', .inr e8⟩
  exact {
    freshB := fun b hb => h.freshB b (Nat.le_trans hnx hb)
    room := h.room
    obj := fun k y r hy hr => by
      have hy : h'.get k = some y := hy
      rcases hk k with e | e | ⟨o, o2, e1, e2, e3, e4, e5, e6, e7, e8⟩
      · rw [e] at hy; exact h.obj k y r hy hr
      · rw [e] at hy; cases hy; trivial
      · rw [e2] at hy; cases hy
        obtain ⟨arr, frz, hok⟩ := h.obj k _ r e1 hr
        refine ⟨arr, frz, { heap := hok.heap, tot := hok.tot, size := by rw [e3]; exact hok.size, elem := fun hne => ?_, cell := fun j a hj ha => hok.cell j a (by omega) (e7 j a (by omega) ha), noRo := fun ht j hj => hok.noRo (e6 ht) j (by omega), soft := fun ht j hj hjt => hok.soft (e6 ht) j (by omega) hjt, zero := hok.zero }⟩
        rw [e4] at hne ⊢
        exact ⟨(hok.elem hne).1, fun ht => ((hok.elem hne).2 (e6 ht)).imp id fun h => by omega⟩
    sep := fun t o r h1 ht hr k o' r' hne h2 hr' hb => by
      have h1 : h'.get t = some (.cells o) := h1
      have h2 : h'.get k = some (.cells o') := h2
      obtain ⟨p, p1, p2, p3, p4, p5⟩ := hcells t o h1
      obtain ⟨q, q1, q2, q3, q4, q5⟩ := hcells k o' h2
      obtain ⟨g1, g2, g3⟩ := h.sep t p r p1 (p3 ht) hr k q r' hne q1 hr' hb
      refine ⟨?_, by rw [p2, q2]; exact g2, ?_⟩
      · rcases p4 with p4 | p4
        · rw [p4, p1] at h1; cases h1; exact g1
        · rw [p4 k g1] at h2; cases h2
      · cases hc : o'.top with
        | false => rfl
        | true => rw [q3 hc] at g3; cases g3
    solo := fun t o r h1 ht hr k o' r' h2 ht2 hr' hb => by
      have key : ∀ j z, h'.get j = some z → z.solo = true → s.h.get j = some z := by
        intro j z hz hs
        rcases hk j with e | e | ⟨_, _, _, e2, _⟩
        · rw [e] at hz; exact hz
        · rw [e] at hz; cases hz; cases hs
        · rw [e2] at hz; cases hz; cases hs
      exact h.solo t o r (key t o h1 ht) ht hr k o' r' (key k o' h2 ht2) ht2 hr' hb
    ancs := fun k o hg a ha => by
      obtain ⟨p, p1, p2, p3, p4, p5⟩ := hcells k o hg
      rcases p5 with p5 | p5
      · exact h.ancs k p p1 a (p5 ▸ ha)
      · rw [p5] at ha; cases ha
    sealedRoom := h.sealedRoom
    glob := h.glob }

theorem Tr.beq_some {x y : Option AV} {z : AV} (h : interV x y = some z) : x = some z ∧ y = some z := by
  cases x with
  | none => cases h
  | some a =>
    cases y with
    | none => cases h
    | some b =>
      obtain ⟨h1, h2⟩ := iff'_some h
      cases h2
      rw [AV.beq_eq h1]; exact ⟨rfl, rfl⟩
theorem get_inter : ∀ {a b : Tr AV} {k : Nat} {x : AV}, (inter a b).get k = some x → a.get k = some x ∧ b.get k = some x := by
  intro a
  induction a with
  | leaf => intro b k x h; rw [inter] at h <;> simp_all [Tr.get_leaf]
  | node v l r ihl ihr =>
    intro b k x h
    cases b with
    | leaf => rw [inter] at h <;> simp_all [Tr.get_leaf]
    | node u l' r' =>
      rw [inter] at h
      cases k with
      | zero =>
        rw [Tr.get_node_zero] at h ⊢
        rw [Tr.get_node_zero]
        exact Tr.beq_some h
      | succ k =>
        rw [Tr.get_node_succ] at h ⊢
        rw [Tr.get_node_succ]
        split at h
        · rename_i e; rw [if_pos e, if_pos e]; exact ihl h
        · rename_i e; rw [if_neg e, if_neg e]; exact ihr h

theorem get_mergeAll (a b : AHeap) : ∀ (l : List Nat) (h : AHeap) (k : Nat), (mergeAll a b l h).get k = if k ∈ l then some (mergeObj (a.get k) (b.get k)) else h.get k
  | [], h, k => by simp [mergeAll, lrec_nil]
  | x :: l, h, k => by
    have e : mergeAll a b (x :: l) h = mergeAll a b l (h.set x (mergeObj (a.get x) (b.get x))) := rfl
    rw [e, get_mergeAll a b l]
    by_cases h1 : k ∈ l
    · simp [h1]
    · rw [if_neg h1, Tr.get_set]
      by_cases h2 : k = x
      · subst h2; simp
      · rw [if_neg h2, if_neg (by simp [h1, h2])]
theorem mem_ancAll (a b : AHeap) : ∀ (l : List Nat) (k : Nat), k ∈ ancAll a b l ↔ ∃ x ∈ l, k ∈ ancOf (a.get x) ∨ k ∈ ancOf (b.get x)
  | [], k => by simp [ancAll, lrec_nil]
  | x :: l, k => by
    have e : ancAll a b (x :: l) = ancOf (a.get x) ++ (ancOf (b.get x) ++ ancAll a b l) := rfl
    rw [e]
    simp only [List.mem_append, mem_ancAll a b l, List.mem_cons, exists_eq_or_imp]
    constructor
    · rintro (h | h | h)
      · exact .inl (.inl h)
      · exact .inl (.inr h)
      · exact .inr h
    · rintro ((h | h) | h)
      · exact .inl h
      · exact .inr (.inl h)
      · exact .inr (.inr h)
theorem sameUpTo_get {c d : Tr AV} : ∀ {n : Nat}, sameUpTo c d n = true → ∀ j a, j < n → (c.get j = some a ↔ d.get j = some a)
  | 0, _, j, a, h => by omega
  | n + 1, h, j, a, hj => by
    simp only [sameUpTo, Bool.and_eq_true] at h
    by_cases e : j = n
    · subst e
      have h1 := h.1
      cases hc : c.get j with
      | none =>
        rw [hc] at h1
        cases hd : d.get j with
        | none => simp
        | some _ => rw [hd] at h1; cases h1
      | some x =>
        rw [hc] at h1
        cases hd : d.get j with
        | none => rw [hd] at h1; cases h1
        | some y => rw [hd] at h1; rw [AV.beq_eq h1]
    · exact sameUpTo_get h.2 j a (by omega)

theorem mergeObj_left (x y : Option AObj) : Wk x (some (mergeObj x y)) := by
  unfold mergeObj
  split
  · rename_i o p
    cases hc : (Nat.beq o.size p.size && Nat.beq o.elem p.elem && sameUpTo o.c p.c o.size) with
    | false => exact .inr (.inl rfl)
    | true =>
      refine .inr (.inr ⟨o, _, rfl, rfl, rfl, rfl, Nat.le_max_left _ _, fun h => ?_, fun j a _ h => h, rfl⟩)
      simp only [Bool.and_eq_true] at h
      exact h.1
  · exact .inr (.inl rfl)
theorem mergeObj_right (x y : Option AObj) : Wk y (some (mergeObj x y)) := by
  unfold mergeObj
  split
  · rename_i o p
    cases hc : (Nat.beq o.size p.size && Nat.beq o.elem p.elem && sameUpTo o.c p.c o.size) with
    | false => exact .inr (.inl rfl)
    | true =>
      simp only [Bool.and_eq_true] at hc
      have h1 := Nat.eq_of_beq_eq_true hc.1.1
      have h2 := Nat.eq_of_beq_eq_true hc.1.2
      refine .inr (.inr ⟨p, _, rfl, rfl, h1, h2, Nat.le_max_right _ _, fun h => ?_, fun j a hj h => (sameUpTo_get hc.2 j a (by omega)).1 h, rfl⟩)
      simp only [Bool.and_eq_true] at h
      exact h.2
  · exact .inr (.inl rfl)

/-- what is known of the names that a piece of code has turned -/
structure Turned (β : Beta) (s s1 : St) : Prop where
  low : ∀ b ∈ s1.tl, s.nx ≤ b ∨ ∃ r, β b = some r
  same : ∀ b, b ∉ s1.tl → s1.h.get b = s.h.get b
  anc : ∀ k o, s1.h.get k = some (.cells o) → ∀ a ∈ o.anc, s.nx ≤ a ∨ ∃ r, β a = some r
theorem Step.turned {s1 : St} (h : Step G B ⟨s.h, s.nx, []⟩ β ro w s1 β' ro' w') : Turned β s s1 := by
  obtain ⟨l, e, h1, h2⟩ := h.tl
  simp only [List.append_nil] at e
  subst e
  refine ⟨h1, h2, fun k o hk a ha => ?_⟩
  obtain ⟨r, hr⟩ := h.rel.ancs k o hk a ha
  rcases h.newB a r hr with h3 | ⟨h3, _⟩
  · exact .inr ⟨r, h3⟩
  · exact .inl h3

theorem merge_get (s s1 s2 : St) (k : Nat) : (mergeSt s s1 s2).h.get k = if k ∈ ancAll s1.h s2.h (s1.tl ++ s2.tl) then some .gone else if k ∈ s1.tl ++ s2.tl then some (mergeObj (s1.h.get k) (s2.h.get k)) else s1.h.get k := by
  show (killAll _ _).get k = _
  rw [get_killAll]
  by_cases h : k ∈ ancAll s1.h s2.h (s1.tl ++ s2.tl)
  · rw [if_pos h, if_pos h]
  · rw [if_neg h, if_neg h, get_mergeAll]

/-- what the two ways agree in, from either of them -/
theorem Step.merged {s1 s2 : St} (h1 : Turned β s s1) (h2 : Turned β s s2) {sx : St} (hx : sx = s1 ∨ sx = s2) (h : Step G B ⟨s.h, s.nx, []⟩ β ro w sx β' ro' w') : Step G B s β ro w (mergeSt s s1 s2) β' ro' w' := by
  have hsame : ∀ k, k ∉ s1.tl ++ s2.tl → s1.h.get k = s.h.get k ∧ s2.h.get k = s.h.get k := by
    intro k hk
    simp only [List.mem_append, not_or] at hk
    exact ⟨h1.same k hk.1, h2.same k hk.2⟩
  have hnx : sx.nx ≤ (mergeSt s s1 s2).nx := by
    rcases hx with rfl | rfl
    · exact Nat.le_max_left _ _
    · exact Nat.le_max_right _ _
  have hwk : ∀ k, Wk (sx.h.get k) ((mergeSt s s1 s2).h.get k) := by
    intro k
    rw [merge_get]
    split
    · exact .inr (.inl rfl)
    · split
      · rcases hx with rfl | rfl
        · exact mergeObj_left _ _
        · exact mergeObj_right _ _
      · rename_i hk
        obtain ⟨e1, e2⟩ := hsame k hk
        rcases hx with rfl | rfl
        · exact .inl rfl
        · exact .inl (e1.trans e2.symm)
  have hkill : ∀ k o o', sx.h.get k = some (.cells o) → (mergeSt s s1 s2).h.get k = some (.cells o') → (mergeSt s s1 s2).h.get k = sx.h.get k ∨ ∀ a ∈ o.anc, (mergeSt s s1 s2).h.get a = some .gone := by
    intro k o o' hk hk'
    by_cases hm : k ∈ s1.tl ++ s2.tl
    · right
      intro a ha
      rw [merge_get, if_pos]
      rw [mem_ancAll]
      refine ⟨k, hm, ?_⟩
      rcases hx with rfl | rfl
      · left; rw [hk]; exact ha
      · right; rw [hk]; exact ha
    · by_cases hg : k ∈ ancAll s1.h s2.h (s1.tl ++ s2.tl)
      · rw [merge_get, if_pos hg] at hk'; cases hk'
      · left
        rw [merge_get, if_neg hg, if_neg hm]
        obtain ⟨e1, e2⟩ := hsame k hm
        rcases hx with rfl | rfl
        · rfl
        · exact e1.trans e2.symm
  exact {
    rel := h.rel.merge hnx hwk hkill
    evo := h.evo, size := h.size, os := h.os, tape := h.tape, output := h.output, frame := h.frame
    nx := Nat.le_trans h.nx hnx
    tl := by
      refine ⟨ancAll s1.h s2.h (s1.tl ++ s2.tl) ++ (s1.tl ++ s2.tl), rfl, fun b hb => ?_, fun b hb => ?_⟩
      · rcases List.mem_append.1 hb with hb | hb
        · rw [mem_ancAll] at hb
          obtain ⟨x, _, hb | hb⟩ := hb
          · cases hg : s1.h.get x with
            | none => rw [hg] at hb; cases hb
            | some z =>
              rw [hg] at hb
              cases z <;> first | (cases hb; done) | exact h1.anc x _ hg b hb
          · cases hg : s2.h.get x with
            | none => rw [hg] at hb; cases hb
            | some z =>
              rw [hg] at hb
              cases z <;> first | (cases hb; done) | exact h2.anc x _ hg b hb
        · rcases List.mem_append.1 hb with hb | hb
          · exact h1.low b hb
          · exact h2.low b hb
      · simp only [List.mem_append, not_or] at hb
        rw [merge_get, if_neg hb.1, if_neg (by simp [hb.2.1, hb.2.2])]
        exact h1.same b hb.2.1
    newB := h.newB, newRo := h.newRo }
end
end Go.Vt
namespace Go.Vt
section
variable {P : Program} {G : Glob} {E : Env} {rec : Ev} {B : Nat} {s s' s'' : St} {β β' β'' : Beta} {ro ro' ro'' : Ro} {w w' w'' : World}

theorem Rel.start (h : Rel G B s β ro w) (tl : List Nat) : Rel G B ⟨s.h, s.nx, tl⟩ β ro w :=
  ⟨h.freshB, h.room, h.obj, h.sep, h.solo, h.ancs, h.sealedRoom, h.glob⟩
theorem wpIn_some {F : Fence} {n : Nat} {c : Code} {Q : Exit → Act → World → Prop} {a : Act} (hfn : ∀ f, F.fn f) (hd : F.depth = none) (h : c.wpIn F n P Q a w) : ∃ e a' w', Q e a' w' := by
  obtain ⟨e, a', w', hq, _⟩ := h { (default : Frame) with roundOf := F.round } [] [] rfl (hfn _) (fun d hdd => by rw [hd] at hdd; cases hdd)
  exact ⟨e, a', w', hq⟩

theorem TRel.interL {T1 T2 : Tmps} {tmps : Array Value} (h : TRel β w ro T1 tmps) : TRel β w ro (inter T1 T2) tmps := fun k a hk => h k a (get_inter hk).1
theorem TRel.interR {T1 T2 : Tmps} {tmps : Array Value} (h : TRel β w ro T2 tmps) : TRel β w ro (inter T1 T2) tmps := fun k a hk => h k a (get_inter hk).2

/-! ## Both ways of a drawn truth value -/
theorem ccFork_ok (hrec : CodeOk P E rec) {x : Operand} {x' : Opd} (hx : cOpd x = some x') {c1 c2 : Code} {T T' : Tmps} {e : AExit} (hany : ev1 T x' = some .anyB) (h : ccFork c1 c2 rec T s = some (e, T', s')) {a : Act} {N n : Nat} {rd : Option Nat} (hd : dstB N (.cond x c1 c2) = true)
    (hr : rd.isSome = true → noRange (.cond x c1 c2) = true) (hN : N ≤ a.tmps.size) (hR : Rel E.G B s β ro w) (hB : B ≤ w.heap.size) (hT : TRel β w ro T a.tmps) :
    (Code.cond x c1 c2).wpIn (FW rd) n P (CPost E.G B s β ro w (.cond x c1 c2) a e T' s') a w := by
  obtain ⟨⟨e1, T1, s1⟩, h1, h⟩ := bnd_eq_some h
  obtain ⟨⟨e2, T2, s2⟩, h2, h⟩ := bnd_eq_some h
  match e1, e2, h, h1, h2 with
  | .normal, .normal, h, h1, h2 =>
  cases h
  simp only [dstB, Bool.and_eq_true] at hd
  have hr' : rd.isSome = true → noRange c1 = true ∧ noRange c2 = true := fun h => by simpa [noRange] using hr h
  have w1 := hrec c1 T _ _ T1 s1 h1 rd B β ro w a N n hd.1 (fun h => (hr' h).1) hN (hR.start []) hB hT
  have w2 := hrec c2 T _ _ T2 s2 h2 rd B β ro w a N n hd.2 (fun h => (hr' h).2) hN (hR.start []) hB hT
  have t1 : Turned β s s1 := by
    obtain ⟨_, _, _, _, _, _, _, _, _, _, _, _, st⟩ := wpIn_some (fun _ => trivial) rfl w1
    exact st.turned
  have t2 : Turned β s s2 := by
    obtain ⟨_, _, _, _, _, _, _, _, _, _, _, _, st⟩ := wpIn_some (fun _ => trivial) rfl w2
    exact st.turned
  have hv := ev1_rel hT hx hany
  generalize hu : a.eval x = u at hv
  cases hv with
  | anyB t =>
  refine wpIn_cond hu ?_
  cases t with
  | true =>
    refine wpIn_mono w1 ?_
    rintro e' a' w' ⟨rfl, β', ro', Ds, g1, g2, g3, g4, g5, g6⟩
    exact ⟨rfl, β', ro', Ds, g1, g2, g3, fun hc => g4 (by simp [noRange] at hc; exact hc.1), g5.interL, Step.merged t1 t2 (.inl rfl) g6⟩
  | false =>
    refine wpIn_mono w2 ?_
    rintro e' a' w' ⟨rfl, β', ro', Ds, g1, g2, g3, g4, g5, g6⟩
    exact ⟨rfl, β', ro', Ds, g1, g2, g3, fun hc => g4 (by simp [noRange] at hc; exact hc.2), g5.interR, Step.merged t1 t2 (.inr rfl) g6⟩

/-! ## Two operations in either order -/
theorem anyAt_rel {d : Nat} {T1 T2 T : Tmps} {tmps : Array Value} (h : TRel β w ro T tmps) (h1 : TRel β w ro T1 tmps ∨ TRel β w ro T2 tmps) : TRel β w ro (anyAt d T1 T2 T) tmps := by
  unfold anyAt
  rw [Tr.gt_get, Tr.gt_get]
  cases ha : T1.get d with
  | none => exact h
  | some x =>
    cases hb : T2.get d with
    | none => exact h
    | some y =>
      rw [orec_some, orec_some]
      split
      · intro k a hk
        rw [Tr.sr_get] at hk
        by_cases e : k = d
        · subst e
          rw [if_pos rfl] at hk; cases hk
          rcases h1 with h1 | h1
          · obtain ⟨v, g1, g2⟩ := h1 k _ ha
            rw [eval_bool g2] at g1
            exact ⟨_, g1, .anyB _⟩
          · obtain ⟨v, g1, g2⟩ := h1 k _ hb
            rw [eval_bool g2] at g1
            exact ⟨_, g1, .anyB _⟩
        · rw [if_neg e] at hk; exact h k a hk
      · exact h

theorem all_on {o : Oper} {l : List Nat} (h : ∀ j, j ∈ onOf o ↔ j ∈ l) (listed : Array Bool) : (o.after.all fun e => !Region.binds .any e || listed.getD e.on false) = l.all fun j => listed.getD j false := by
  rw [Bool.eq_iff_iff, Array.all_eq_true_iff_forall_mem, List.all_eq_true]
  constructor
  · intro hh j hj
    have := (h j).2 hj
    unfold onOf at this
    simp only [List.mem_map, List.mem_filter, Array.mem_toList_iff] at this
    obtain ⟨e, ⟨he, hb⟩, rfl⟩ := this
    have := hh e he
    simpa [hb] using this
  · intro hh e he
    cases hb : Region.binds .any e with
    | false => simp
    | true =>
      have : e.on ∈ onOf o := by
        unfold onOf
        simp only [List.mem_map, List.mem_filter, Array.mem_toList_iff]
        exact ⟨e, ⟨he, hb⟩, rfl⟩
      simpa using hh _ ((h _).1 this)

theorem fourOf_some {ops : Array Oper} {q : Oper × Oper × Oper × Oper} (h : fourOf ops = some q) : ops.toList = [q.1, q.2.1, q.2.2.1, q.2.2.2] ∧ onOf q.1 = [] ∧ onOf q.2.1 = [0] ∧ onOf q.2.2.1 = [0] ∧ (onOf q.2.2.2).eraseDups = [0, 1, 2] := by
  unfold fourOf at h
  split at h
  · rename_i o0 o1 o2 o3 hl
    split at h
    · rename_i hc; cases h; exact ⟨hl, hc⟩
    · cases h
  · cases h

def deps4 : Nat → List Nat
  | 1 => [0]
  | 2 => [0]
  | 3 => [0, 1, 2]
  | _ => []
theorem four_schedule {ops : Array Oper} {q : Oper × Oper × Oper × Oper} (h : fourOf ops = some q) (t : Nat) : Region.schedule true ops t = [0, 1, 2, 3] ∨ Region.schedule true ops t = [0, 2, 1, 3] := by
  obtain ⟨hl, h0, h1, h2, h3⟩ := fourOf_some h
  have hsz : ops.size = 4 := by rw [← Array.length_toList, hl]; rfl
  have hget : ∀ i, ops[i]? = [q.1, q.2.1, q.2.2.1, q.2.2.2][i]? := fun i => by rw [← hl, Array.getElem?_toList]
  have hon : ∀ (o : Oper) (l : List Nat), onOf o = l → ∀ j, j ∈ onOf o ↔ j ∈ l := fun o l e j => by rw [e]
  have hon3 : ∀ j, j ∈ onOf q.2.2.2 ↔ j ∈ [0, 1, 2] := fun j => by rw [← h3, List.mem_eraseDups]
  have hready : ∀ listed : Array Bool, ((List.range ops.size).filter fun i => !listed.getD i true && ((ops[i]?).map (·.after.all fun e => !Region.binds .any e || listed.getD e.on false)).getD false) =
      ([0, 1, 2, 3].filter fun i => !listed.getD i true && (deps4 i).all fun j => listed.getD j false) := by
    intro listed
    rw [hsz]
    show List.filter _ [0, 1, 2, 3] = _
    refine List.filter_congr fun i hi => ?_
    simp only [List.mem_cons, List.mem_nil_iff, or_false] at hi
    rcases hi with rfl | rfl | rfl | rfl
    · rw [hget]; simp only [List.getElem?_cons_zero, Option.map_some, Option.getD_some]; rw [all_on (hon _ _ h0)]; rfl
    · rw [hget]; simp only [List.getElem?_cons_succ, List.getElem?_cons_zero, Option.map_some, Option.getD_some]; rw [all_on (hon _ _ h1)]; rfl
    · rw [hget]; simp only [List.getElem?_cons_succ, List.getElem?_cons_zero, Option.map_some, Option.getD_some]; rw [all_on (hon _ _ h2)]; rfl
    · rw [hget]; simp only [List.getElem?_cons_succ, List.getElem?_cons_zero, Option.map_some, Option.getD_some]; rw [all_on hon3]; rfl
  have go : ∀ (fuel t : Nat) (listed : Array Bool) (acc : List Nat), Region.linearise.go .any ops (fuel + 1) t listed acc =
      match ([0, 1, 2, 3].filter fun i => !listed.getD i true && (deps4 i).all fun j => listed.getD j false)[t % ([0, 1, 2, 3].filter fun i => !listed.getD i true && (deps4 i).all fun j => listed.getD j false).length]? with
      | some i => Region.linearise.go .any ops fuel (t / ([0, 1, 2, 3].filter fun i => !listed.getD i true && (deps4 i).all fun j => listed.getD j false).length) (listed.setIfInBounds i true) (i :: acc)
      | none => acc.reverse := by
    intro fuel t listed acc
    simp only [Region.linearise.go]
    rw [hready]
    cases ([0, 1, 2, 3].filter fun i => !listed.getD i true && (deps4 i).all fun j => listed.getD j false)[t % ([0, 1, 2, 3].filter fun i => !listed.getD i true && (deps4 i).all fun j => listed.getD j false).length]? <;> rfl
  show Region.linearise .any ops t = _ ∨ Region.linearise .any ops t = _
  unfold Region.linearise
  rw [hsz]
  have e0 : (Array.replicate 4 false) = #[false, false, false, false] := rfl
  rw [e0, go]
  have f0 : ([0, 1, 2, 3].filter fun i => !(#[false, false, false, false] : Array Bool).getD i true && (deps4 i).all fun j => (#[false, false, false, false] : Array Bool).getD j false) = [0] := by decide
  rw [f0]
  simp only [List.length_cons, List.length_nil, Nat.zero_add, Nat.mod_one, Nat.div_one, List.getElem?_cons_zero]
  have e1 : (#[false, false, false, false] : Array Bool).setIfInBounds 0 true = #[true, false, false, false] := by decide
  rw [e1, go]
  have f1 : ([0, 1, 2, 3].filter fun i => !(#[true, false, false, false] : Array Bool).getD i true && (deps4 i).all fun j => (#[true, false, false, false] : Array Bool).getD j false) = [1, 2] := by decide
  rw [f1]
  simp only [List.length_cons, List.length_nil]
  have hm : t % 2 = 0 ∨ t % 2 = 1 := by omega
  rcases hm with hm | hm
  · left
    simp only [Nat.zero_add, Nat.reduceAdd, hm, List.getElem?_cons_zero]
    have e2 : (#[true, false, false, false] : Array Bool).setIfInBounds 1 true = #[true, true, false, false] := by decide
    rw [e2, go]
    have f2 : ([0, 1, 2, 3].filter fun i => !(#[true, true, false, false] : Array Bool).getD i true && (deps4 i).all fun j => (#[true, true, false, false] : Array Bool).getD j false) = [2] := by decide
    rw [f2]
    simp only [List.length_cons, List.length_nil, Nat.zero_add, Nat.mod_one, Nat.div_one, List.getElem?_cons_zero]
    have e3 : (#[true, true, false, false] : Array Bool).setIfInBounds 2 true = #[true, true, true, false] := by decide
    rw [e3, go]
    have f3 : ([0, 1, 2, 3].filter fun i => !(#[true, true, true, false] : Array Bool).getD i true && (deps4 i).all fun j => (#[true, true, true, false] : Array Bool).getD j false) = [3] := by decide
    rw [f3]
    simp only [List.length_cons, List.length_nil, Nat.zero_add, Nat.mod_one, Nat.div_one, List.getElem?_cons_zero]
    rfl
  · right
    simp only [Nat.zero_add, Nat.reduceAdd, hm, List.getElem?_cons_succ, List.getElem?_cons_zero]
    have e2 : (#[true, false, false, false] : Array Bool).setIfInBounds 2 true = #[true, false, true, false] := by decide
    rw [e2, go]
    have f2 : ([0, 1, 2, 3].filter fun i => !(#[true, false, true, false] : Array Bool).getD i true && (deps4 i).all fun j => (#[true, false, true, false] : Array Bool).getD j false) = [1] := by decide
    rw [f2]
    simp only [List.length_cons, List.length_nil, Nat.zero_add, Nat.mod_one, Nat.div_one, List.getElem?_cons_zero]
    have e3 : (#[true, false, true, false] : Array Bool).setIfInBounds 1 true = #[true, true, true, false] := by decide
    rw [e3, go]
    have f3 : ([0, 1, 2, 3].filter fun i => !(#[true, true, true, false] : Array Bool).getD i true && (deps4 i).all fun j => (#[true, true, true, false] : Array Bool).getD j false) = [3] := by decide
    rw [f3]
    simp only [List.length_cons, List.length_nil, Nat.zero_add, Nat.mod_one, Nat.div_one, List.getElem?_cons_zero]
    rfl

theorem ccDrawn_ok (hE : EnvOk P E) (hrec : CodeOk P E rec) (hfun : FunOk P E rec) {id : Nat} {ops : Array Oper} {q : Oper × Oper × Oper × Oper} (hq : fourOf ops = some q) {T T' : Tmps} {e : AExit} (h : ccDrawn E ops q rec T s = some (e, T', s')) {a : Act} {N n : Nat} {rd : Option Nat} (hd : dstB N (.region id ops true) = true)
    (hN : N ≤ a.tmps.size) (hR : Rel E.G B s β ro w) (hB : B ≤ w.heap.size) (hT : TRel β w ro T a.tmps) :
    (Code.region id ops true).wpIn (FW rd) n P (CPost E.G B s β ro w (.region id ops true) a e T' s') a w := by
  obtain ⟨⟨T1, s1⟩, h1, h⟩ := bnd_eq_some h
  obtain ⟨⟨T2, s2⟩, h2, h⟩ := bnd_eq_some h
  cases h
  obtain ⟨hl, _⟩ := fourOf_some hq
  have hget : ∀ i, ops[i]? = [q.1, q.2.1, q.2.2.1, q.2.2.2][i]? := fun i => by rw [← hl, Array.getElem?_toList]
  have hdst : ∀ o ∈ ops.toList, dstO a.tmps.size o.dst = true := by
    simp only [dstB, Bool.and_eq_true, List.all_eq_true] at hd
    exact fun o ho => dstO_mono hN (hd.1 o ho)
  rw [hl] at hdst
  have hdr : Step E.G B s β ro w s β ro { w with drawn := w.drawn + 1 } := Step.drewN hR 1
  have hR0 := hdr.rel.start []
  have hT0 := hT.evo hdr.evo
  -- both orders, as code that could be walked
  have run1 : ∀ Q : Exit → Act → World → Prop, (∀ a' β' ro' w', a'.tmps.size = a.tmps.size → a'.defers = a.defers → TRel β' w' ro' T1 a'.tmps → Step E.G B ⟨s.h, s.nx, []⟩ β ro { w with drawn := w.drawn + 1 } s1 β' ro' w' → Q .normal a' w') →
      wpOpsIn (FW rd) n P ops Q [0, 1, 2, 3] a { w with drawn := w.drawn + 1 } := fun Q hQ =>
    evOps_ok hE hrec hfun [q.1, q.2.1, q.2.2.1, q.2.2.2] [0, 1, 2, 3] (by simp [hget]) h1 hR0 hB hT0 (by simp [hdst]) hQ
  have run2 : ∀ Q : Exit → Act → World → Prop, (∀ a' β' ro' w', a'.tmps.size = a.tmps.size → a'.defers = a.defers → TRel β' w' ro' T2 a'.tmps → Step E.G B ⟨s.h, s.nx, []⟩ β ro { w with drawn := w.drawn + 1 } s2 β' ro' w' → Q .normal a' w') →
      wpOpsIn (FW rd) n P ops Q [0, 2, 1, 3] a { w with drawn := w.drawn + 1 } := fun Q hQ =>
    evOps_ok hE hrec hfun [q.1, q.2.2.1, q.2.1, q.2.2.2] [0, 2, 1, 3] (by simp [hget]) h2 hR0 hB hT0 (by simp [hdst]) hQ
  have ex : ∀ {l : List Nat} {Q : Exit → Act → World → Prop}, wpOpsIn (FW rd) n P ops Q l a { w with drawn := w.drawn + 1 } → ∃ e a' w', Q e a' w' := by
    intro l Q hw
    obtain ⟨e, a', w', hq, _⟩ := wp_opsIn l a _ hw { (default : Frame) with roundOf := rd } [] [] rfl trivial (fun d hdd => by cases hdd)
    exact ⟨e, a', w', hq⟩
  have t1 : Turned β s s1 := by
    obtain ⟨_, _, _, h⟩ := ex (run1 (fun _ _ _ => Turned β s s1) fun _ _ _ _ _ _ _ st => st.turned)
    exact h
  have t2 : Turned β s s2 := by
    obtain ⟨_, _, _, h⟩ := ex (run2 (fun _ _ _ => Turned β s s2) fun _ _ _ _ _ _ _ st => st.turned)
    exact h
  refine wpIn_region_draw fun t => ?_
  rw [hE.mixed]
  have post : ∀ {sx : St} {Tx : Tmps}, (sx = s1 ∧ Tx = T1) ∨ (sx = s2 ∧ Tx = T2) → ∀ (a' : Act) (β' : Beta) (ro' : Ro) (w' : World), a'.tmps.size = a.tmps.size → a'.defers = a.defers → TRel β' w' ro' Tx a'.tmps → Step E.G B ⟨s.h, s.nx, []⟩ β ro { w with drawn := w.drawn + 1 } sx β' ro' w' →
      CPost E.G B s β ro w (.region id ops true) a .normal (orec (inter T1 T2) (fun d => anyAt d T1 T2 (inter T1 T2)) q.2.2.2.dst) (mergeSt s s1 s2) .normal a' w' := by
    intro sx Tx hx a' β' ro' w' g1 g2 g3 g4
    refine ⟨rfl, β', ro', [], g1, by simpa [mkMarks] using g2, .nil, fun _ => rfl, ?_, hdr.trans (Step.merged t1 t2 (hx.imp (·.1) (·.1)) g4)⟩
    have hi : TRel β' w' ro' (inter T1 T2) a'.tmps := by
      rcases hx with ⟨_, rfl⟩ | ⟨_, rfl⟩
      · exact g3.interL
      · exact g3.interR
    cases q.2.2.2.dst with
    | none => exact hi
    | some d =>
      rw [orec_some]
      refine anyAt_rel hi ?_
      rcases hx with ⟨_, rfl⟩ | ⟨_, rfl⟩
      · exact .inl g3
      · exact .inr g3
  rcases four_schedule hq t with e | e
  · rw [e]; exact run1 _ (post (.inl ⟨rfl, rfl⟩))
  · rw [e]; exact run2 _ (post (.inr ⟨rfl, rfl⟩))
end
end Go.Vt
namespace Go.Vt

/-! # What an operation computes hangs on its operands alone -/
section
variable {T T' : Tmps} {os : Array Operand}
def Same (os : Array Operand) (T T' : Tmps) : Prop := ∀ t, Operand.tmp t ∈ os → T.get t = T'.get t
theorem Same.one (h : Same os T T') {x : Operand} {x' : Opd} (hx : cOpd x = some x') (hm : x ∈ os) : ev1 T x' = ev1 T' x' := by
  cases x with
  | tmp t =>
    cases hx
    show (Tr.gt t).f T = (Tr.gt t).f T'
    rw [Tr.gt_get, Tr.gt_get]
    exact h t hm
  | const c =>
    simp only [cOpd] at hx
    cases hc : av1 c with
    | none => rw [hc] at hx; cases hx
    | some y => rw [hc] at hx; cases hx; rfl
  | global g => cases hx; rfl
  | func f => cases hx; rfl
theorem Same.nat (h : Same os T T') {x : Operand} {x' : Opd} (hx : cOpd x = some x') (hm : x ∈ os) : evNat T x' = evNat T' x' := by unfold evNat; rw [h.one hx hm]
theorem Same.optNat (h : Same os T T') {x : Option Operand} {x' : Option Opd} (hx : cOptOpd x = some x') (hm : ∀ y, x = some y → y ∈ os) (d : Nat) : evoNat T x' d = evoNat T' x' d := by
  cases x with
  | none => cases hx; rfl
  | some y =>
    simp only [cOptOpd] at hx
    cases hc : cOpd y with
    | none => rw [hc] at hx; cases hx
    | some z => rw [hc] at hx; cases hx; exact h.nat hc (hm y rfl)
theorem Same.optNat? (h : Same os T T') {x : Option Operand} {x' : Option Opd} (hx : cOptOpd x = some x') (hm : ∀ y, x = some y → y ∈ os) : evoNat? T x' = evoNat? T' x' := by
  cases x with
  | none => cases hx; rfl
  | some y =>
    simp only [cOptOpd] at hx
    cases hc : cOpd y with
    | none => rw [hc] at hx; cases hx
    | some z =>
      rw [hc] at hx; cases hx
      show bnd (evNat T z) _ = bnd (evNat T' z) _
      rw [h.nat hc (hm y rfl)]
theorem Same.list (h : Same os T T') : ∀ {xs : List Operand} {xs' : List Opd}, cOpds xs = some xs' → (∀ x ∈ xs, x ∈ os) → evs T xs' = evs T' xs'
  | [], xs', hx, _ => by cases hx; rfl
  | x :: xs, xs', hx, hm => by
    simp only [cOpds] at hx
    split at hx
    · rename_i y ys h1 h2
      cases hx
      show bnd (ev1 T y) _ = bnd (ev1 T' y) _
      rw [h.one h1 (hm x (by simp))]
      have ih := h.list h2 fun z hz => hm z (by simp [hz])
      congr 1
      funext a
      show bnd (evs T ys) _ = bnd (evs T' ys) _
      rw [ih]
    · cases hx
theorem evParts_same : ∀ {l : List (Nat × Nat × Opd)}, (∀ p ∈ l, ev1 T p.2.2 = ev1 T' p.2.2) → evParts T l = evParts T' l
  | [], _ => rfl
  | (off, n, x) :: r, h => by
    simp only [evParts]
    rw [h (off, n, x) (by simp), evParts_same fun p hp => h p (by simp [hp])]
theorem cPartsA_mem {n : Nat} : ∀ {ps : List (Nat × Operand)} {l : List (Nat × Nat × Opd)}, cPartsA n ps = some l → ∀ p ∈ l, ∃ q ∈ ps, cOpd q.2 = some p.2.2
  | [], l, h, p, hp => by cases h; cases hp
  | (i, x) :: r, l, h, p, hp => by
    simp only [cPartsA] at h
    split at h
    · rename_i a l' h1 h2
      cases h
      rcases List.mem_cons.1 hp with rfl | hp
      · exact ⟨(i, x), by simp, h1⟩
      · obtain ⟨q, hq, e⟩ := cPartsA_mem h2 p hp
        exact ⟨q, by simp [hq], e⟩
    · cases h
theorem cParts_mem {T0 : TT} {fs : Array Field} : ∀ {ps : List (Nat × Operand)} {l : List (Nat × Nat × Opd)}, cParts T0 fs ps = some l → ∀ p ∈ l, ∃ q ∈ ps, cOpd q.2 = some p.2.2
  | [], l, h, p, hp => by cases h; cases hp
  | (i, x) :: r, l, h, p, hp => by
    simp only [cParts] at h
    split at h
    · rename_i f a l' hf h1 h2
      cases hs : sizeT T0 f.type with
      | none => rw [hs] at h; cases h
      | some n =>
        rw [hs] at h
        cases h
        rcases List.mem_cons.1 hp with rfl | hp
        · exact ⟨(i, x), by simp, h1⟩
        · obtain ⟨q, hq, e⟩ := cParts_mem h2 p hp
          exact ⟨q, by simp [hq], e⟩
    · cases h
end

section
variable {G : Glob} {T0 : TT} {F : Nat → Option (List Nat)} {M : Nat → String → Option Nat} {A : Tabs} {T T' : Tmps}
theorem cBin_same {o : Oper} {op : BinOp} {t yt : Nat} {x y : Operand} {c : COp} (ho : o.op = .binOp op t x y yt) (h : cBin T0 F op t x y = some c) (hT : Same o.op.operands T T') : ∃ k f, c = .op k f ∧ ∀ s, f T s = f T' s := by
  unfold cBin at h
  simp only [Option.bind_eq_bind, Option.bind_eq_some_iff] at h
  obtain ⟨a, ha, b, hb, h⟩ := h
  have e1 := hT.one ha (by simp [ho, Op.operands])
  have e2 := hT.one hb (by simp [ho, Op.operands])
  split at h
  · split at h <;> (cases h; exact ⟨_, _, rfl, fun s => by simp only [opShift, opBinI, e1, e2]⟩)
  · cases h; exact ⟨_, _, rfl, fun s => by simp only [opBinS, e1, e2]⟩
  · cases h; exact ⟨_, _, rfl, fun s => by simp only [opBinB, e1, e2]⟩
  · split at h <;> first | (cases h; done) | (cases h; exact ⟨_, _, rfl, fun s => by simp only [opEqs, e1, e2]⟩)
  · split at h <;> first | (cases h; done) | (cases h; exact ⟨_, _, rfl, fun s => by simp only [opEqs, e1, e2]⟩)
  · split at h <;> first | (cases h; done) | (cases h; exact ⟨_, _, rfl, fun s => by simp only [opEqNil, e1, e2]⟩)

theorem cBuiltin_same {o : Oper} {b : Builtin} {ts : Array Nat} {args : Array Operand} {c : COp} (ho : o.op = .call { callee := .builtin b, args, argTypes := ts }) (h : cBuiltin T0 b ts.toList args.toList = some c) (hT : Same o.op.operands T T') :
    ∃ k f, c = .op k f ∧ ∀ s, f T s = f T' s := by
  have hops : ∀ x ∈ args.toList, x ∈ o.op.operands := fun x hx => by simp [ho, Op.operands, Call.operands, Array.mem_toList_iff.1 hx]
  unfold cBuiltin at h
  split at h
  · rename_i t x ht hx
    rw [hx] at hops
    simp only [Option.bind_eq_bind, Option.bind_eq_some_iff] at h
    obtain ⟨a, ha, h⟩ := h
    have e1 := hT.one ha (hops x (by simp))
    split at h <;> first | (cases h; done) | (cases h; exact ⟨_, _, rfl, fun s => by simp only [opLenS, opLenL, opLenM, e1]⟩) | (cases h; exact ⟨_, _, rfl, fun s => rfl⟩)
  · rename_i t x ht hx
    rw [hx] at hops
    split at h
    · simp only [Option.bind_eq_bind, Option.bind_eq_some_iff] at h
      obtain ⟨a, ha, h⟩ := h
      have e1 := hT.one ha (hops x (by simp))
      cases h; exact ⟨_, _, rfl, fun s => by simp only [opCapL, e1]⟩
    · cases h
  · rename_i t u x y ht hx
    rw [hx] at hops
    simp only [Option.bind_eq_bind, Option.bind_eq_some_iff] at h
    obtain ⟨a, ha, b, hb, h⟩ := h
    have e1 := hT.one ha (hops x (by simp))
    have e2 := hT.one hb (hops y (by simp))
    split at h
    · simp only [Option.bind_eq_some_iff] at h
      obtain ⟨i, hi, z, hz, h⟩ := h
      split at h
      · cases h; exact ⟨_, _, rfl, fun s => by simp only [opAppL, e1, e2]⟩
      · cases h
    · simp only [Option.bind_eq_some_iff] at h
      obtain ⟨i, hi, z, hz, h⟩ := h
      split at h
      · cases h; exact ⟨_, _, rfl, fun s => by simp only [opAppS, e1, e2]⟩
      · cases h
    · cases h
  · rename_i t u x y ht hx
    rw [hx] at hops
    simp only [Option.bind_eq_bind, Option.bind_eq_some_iff] at h
    obtain ⟨a, ha, b, hb, h⟩ := h
    have e1 := hT.one ha (hops x (by simp))
    have e2 := hT.one hb (hops y (by simp))
    split at h
    · simp only [Option.bind_eq_some_iff] at h
      obtain ⟨n, hn, h⟩ := h
      cases h; exact ⟨_, _, rfl, fun s => by simp only [opCopyL, e1, e2]⟩
    · cases h
  · rename_i t x ht hx
    rw [hx] at hops
    split at h
    · simp only [Option.bind_eq_bind, Option.bind_eq_some_iff] at h
      obtain ⟨n, hn, z, hz, a, ha, h⟩ := h
      have e1 := hT.one ha (hops x (by simp))
      cases h; exact ⟨_, _, rfl, fun s => by simp only [opClearL, e1]⟩
    · cases h
  · simp only [Option.bind_eq_bind, Option.bind_eq_some_iff] at h
    obtain ⟨a, ha, h⟩ := h
    have e1 := hT.list ha hops
    cases h; exact ⟨_, _, rfl, fun s => by simp only [opMaxs, e1]⟩
  · simp only [Option.bind_eq_bind, Option.bind_eq_some_iff] at h
    obtain ⟨a, ha, h⟩ := h
    have e1 := hT.list ha hops
    cases h; exact ⟨_, _, rfl, fun s => by simp only [opMaxs, e1]⟩
  · rename_i x hx
    rw [hx] at hops
    simp only [Option.bind_eq_bind, Option.bind_eq_some_iff] at h
    obtain ⟨a, ha, h⟩ := h
    have e1 := hT.one ha (hops x (by simp))
    cases h; exact ⟨_, _, rfl, fun s => by simp only [opStrData, e1]⟩
  · rename_i t u x y ht hx
    rw [hx] at hops
    split at h
    · simp only [Option.bind_eq_bind, Option.bind_eq_some_iff] at h
      obtain ⟨n, hn, h⟩ := h
      split at h
      · simp only [Option.bind_eq_some_iff] at h
        obtain ⟨a, ha, b, hb, h⟩ := h
        have e1 := hT.one ha (hops x (by simp))
        have e2 := hT.nat hb (hops y (by simp))
        cases h; exact ⟨_, _, rfl, fun s => by simp only [opMkStr, e1, e2]⟩
      · cases h
    · cases h
  · cases h

/-- of an operation that is no call -/
theorem cOp_same {o : Oper} {k : Cls} {f : Tmps → St → Res} (h : cOp G T0 F M A o = some (.op k f)) (hT : Same o.op.operands T T') : ∀ s, f T s = f T' s := by
  unfold cOp at h
  split at h <;> rename_i ho
  · simp only [Option.bind_eq_bind, Option.bind_eq_some_iff] at h
    obtain ⟨a, ha, h⟩ := h
    have e0 := hT.one ha (by simp [ho, Op.operands])
    cases h; intro s; simp only [opMv, e0]
  · simp only [Option.bind_eq_bind, Option.bind_eq_some_iff] at h
    obtain ⟨a, ha, h⟩ := h
    have e0 := hT.one ha (by simp [ho, Op.operands])
    cases h; intro s; simp only [opMv, e0]
  · simp only [Option.bind_eq_bind, Option.bind_eq_some_iff] at h
    obtain ⟨a, ha, b, hb, d, hd, h⟩ := h
    have e0 := hT.one ha (by simp [ho, Op.operands])
    have e1 := hT.one hb (by simp [ho, Op.operands])
    have e2 := hT.one hd (by simp [ho, Op.operands])
    cases h; intro s; simp only [opPick, e0, e1, e2]
  · simp only [Option.bind_eq_bind, Option.bind_eq_some_iff] at h
    obtain ⟨n, hn, z, hz, h⟩ := h
    cases h; intro s; simp only [opAlloc]
  · simp only [Option.bind_eq_bind, Option.bind_eq_some_iff] at h
    obtain ⟨a, ha, n, hn, h⟩ := h
    have e0 := hT.one ha (by simp [ho, Op.operands])
    cases h; intro s; simp only [opBox, e0]
  · split at h
    · simp only [Option.bind_eq_bind, Option.bind_eq_some_iff] at h
      obtain ⟨z, hz, l, hl, l', hl', h⟩ := h
      split at h
      · cases h
        obtain ⟨rfl, _⟩ := partsIn_some hl'
        intro s
        simp only [opBuild]
        rw [evParts_same fun p hp => ?_]
        obtain ⟨q, hq, e⟩ := cParts_mem hl p hp
        exact hT.one e (by simp [ho, Op.operands]; exact ⟨q.1, by simpa using hq⟩)
      · cases h
    · simp only [Option.bind_eq_bind, Option.bind_eq_some_iff] at h
      obtain ⟨z, hz, n', hn, l, hl, l', hl', h⟩ := h
      cases h
      obtain ⟨rfl, _⟩ := partsIn_some hl'
      intro s
      simp only [opBuild]
      rw [evParts_same fun p hp => ?_]
      obtain ⟨q, hq, e⟩ := cPartsA_mem hl p hp
      exact hT.one e (by simp [ho, Op.operands]; exact ⟨q.1, by simpa using hq⟩)
    · cases h
  · split at h
    · simp only [Option.bind_eq_bind, Option.bind_eq_some_iff] at h
      obtain ⟨n, hn, z, hz, l, hl, l', hl', h⟩ := h
      split at h
      · cases h
        obtain ⟨rfl, _⟩ := partsIn_some hl'
        intro s
        simp only [opBuildSl]
        rw [evParts_same fun p hp => ?_]
        obtain ⟨q, hq, e⟩ := cPartsA_mem hl p hp
        exact hT.one e (by simp [ho, Op.operands]; exact ⟨q.1, by simpa using hq⟩)
      · cases h
    · cases h
  · split at h
    · simp only [Option.bind_eq_bind, Option.bind_eq_some_iff] at h
      obtain ⟨n, hn, a, ha, h⟩ := h
      have e1 := hT.one ha (by simp [ho, Op.operands])
      cases h; intro s; simp only [opLoadN, e1]
    · simp only [Option.bind_eq_bind, Option.bind_eq_some_iff] at h
      obtain ⟨a, ha, h⟩ := h
      have e0 := hT.one ha (by simp [ho, Op.operands])
      cases h; intro s; simp only [opLoad1, e0]
    · cases h
  · simp only [Option.bind_eq_bind, Option.bind_eq_some_iff] at h
    obtain ⟨n, hn, a, ha, b, hb, h⟩ := h
    have e1 := hT.one ha (by simp [ho, Op.operands])
    have e2 := hT.one hb (by simp [ho, Op.operands])
    cases h; intro s; simp only [opStore, e1, e2]
  · simp only [Option.bind_eq_bind, Option.bind_eq_some_iff] at h
    obtain ⟨a, ha, h⟩ := h
    have e0 := hT.one ha (by simp [ho, Op.operands])
    cases h; intro s; simp only [opNilCheck, e0]
  · split at h
    · simp only [Option.bind_eq_bind, Option.bind_eq_some_iff] at h
      obtain ⟨a, ha, h⟩ := h
      have e0 := hT.one ha (by simp [ho, Op.operands])
      cases h; intro s; simp only [opAssert, e0]
    · cases h
  · obtain ⟨k', f', e, h'⟩ := cBin_same ho h hT
    cases e; exact h'
  · simp only [Option.bind_eq_bind, Option.bind_eq_some_iff] at h
    obtain ⟨a, ha, h⟩ := h
    have e0 := hT.one ha (by simp [ho, Op.operands])
    cases h; intro s; simp only [opNeg, e0]
  · simp only [Option.bind_eq_bind, Option.bind_eq_some_iff] at h
    obtain ⟨a, ha, h⟩ := h
    have e0 := hT.one ha (by simp [ho, Op.operands])
    cases h; intro s; simp only [opNot, e0]
  · simp only [Option.bind_eq_bind, Option.bind_eq_some_iff] at h
    obtain ⟨a, ha, h⟩ := h
    have e0 := hT.one ha (by simp [ho, Op.operands])
    cases h; intro s; simp only [opXor, e0]
  · split at h
    · simp only [Option.bind_eq_bind, Option.bind_eq_some_iff] at h
      obtain ⟨a, ha, h⟩ := h
      have e0 := hT.one ha (by simp [ho, Op.operands])
      cases h; intro s; simp only [opToInt, e0]
    · split at h
      · simp only [Option.bind_eq_bind, Option.bind_eq_some_iff] at h
        obtain ⟨a, ha, h⟩ := h
        have e0 := hT.one ha (by simp [ho, Op.operands])
        cases h; intro s; simp only [opToBytes, e0]
      · cases h
    · split at h
      · simp only [Option.bind_eq_bind, Option.bind_eq_some_iff] at h
        obtain ⟨a, ha, h⟩ := h
        have e0 := hT.one ha (by simp [ho, Op.operands])
        cases h; intro s; simp only [opToStr, e0]
      · cases h
    · split at h
      · simp only [Option.bind_eq_bind, Option.bind_eq_some_iff] at h
        obtain ⟨a, ha, h⟩ := h
        have e0 := hT.one ha (by simp [ho, Op.operands])
        cases h; intro s; simp only [opToUnsafe, e0]
      · cases h
    · split at h
      · simp only [Option.bind_eq_bind, Option.bind_eq_some_iff] at h
        obtain ⟨a, ha, h⟩ := h
        have e0 := hT.one ha (by simp [ho, Op.operands])
        cases h; intro s; simp only [opOfUnsafe, e0]
      · cases h
    · simp only [Option.bind_eq_bind, Option.bind_eq_some_iff] at h
      obtain ⟨a, ha, h⟩ := h
      have e0 := hT.one ha (by simp [ho, Op.operands])
      cases h; intro s; simp only [opSameS, e0]
    · cases h
  · split at h
    · cases h
    · simp only [Option.bind_eq_bind, Option.bind_eq_some_iff] at h
      obtain ⟨a, ha, h⟩ := h
      have e0 := hT.one ha (by simp [ho, Op.operands])
      cases h; intro s; simp only [opIface, e0]
    · cases h
  · simp only [Option.bind_eq_bind, Option.bind_eq_some_iff] at h
    obtain ⟨a, ha, b, hb, h⟩ := h
    have e0 := hT.list ha (fun x hx => by simp [ho, Op.operands]; exact .inl (Array.mem_toList_iff.1 hx))
    have e1 := hT.list hb (fun x hx => by simp [ho, Op.operands]; exact .inr (Array.mem_toList_iff.1 hx))
    cases h; intro s; simp only [opMkFunc, e0, e1]
  · cases h; intro s; rfl
  · split at h
    · simp only [Option.bind_eq_bind, Option.bind_eq_some_iff] at h
      obtain ⟨i, hi, h⟩ := h
      split at h
      · simp only [Option.bind_eq_some_iff] at h
        obtain ⟨z, hz, l, hl, m, hm, h⟩ := h
        have e0 := hT.nat hl (by simp [ho, Op.operands])
        have e1 := hT.nat hm (by simp [ho, Op.operands])
        cases h; intro s; simp only [opMkSlice, e0, e1]
      · cases h
    · cases h
  · have hsub : ∀ x ∈ o.op.operands, True := fun _ _ => trivial
    split at h
    · split at h
      · simp only [Option.bind_eq_bind, Option.bind_eq_some_iff] at h
        obtain ⟨a, ha, l, hl, m, hm, h⟩ := h
        have e0 := hT.one ha (by simp [ho, Op.operands])
        have e1 := hT.optNat hl (fun y hy => by simp [ho, Op.operands, hy])
        have e2 := hT.optNat hm (fun y hy => by simp [ho, Op.operands, hy])
        cases h; intro s; simp only [opCutS, e0, e1, e2]
      · cases h
    · split at h
      · cases h
      · simp only [Option.bind_eq_bind, Option.bind_eq_some_iff] at h
        obtain ⟨n, hn, a, ha, l, hl, m, hm, q, hq, h⟩ := h
        have e0 := hT.one ha (by simp [ho, Op.operands])
        have e1 := hT.optNat hl (fun y hy => by simp [ho, Op.operands, hy])
        have e2 := hT.optNat hm (fun y hy => by simp [ho, Op.operands, hy])
        have e3 := hT.optNat? hq (fun y hy => by simp [ho, Op.operands, hy])
        cases h; intro s; simp only [opCutL, e0, e1, e2, e3]
    · split at h
      · simp only [Option.bind_eq_bind, Option.bind_eq_some_iff] at h
        obtain ⟨n, hn, a, ha, l, hl, m, hm, h⟩ := h
        have e0 := hT.one ha (by simp [ho, Op.operands])
        have e1 := hT.optNat hl (fun y hy => by simp [ho, Op.operands, hy])
        have e2 := hT.optNat hm (fun y hy => by simp [ho, Op.operands, hy])
        cases h; intro s; simp only [opCutA, e0, e1, e2]
      · cases h
    · cases h
  · split at h
    · split at h
      · simp only [Option.bind_eq_bind, Option.bind_eq_some_iff] at h
        obtain ⟨n, hn, h⟩ := h
        split at h
        · cases h
        · simp only [Option.bind_eq_some_iff] at h
          obtain ⟨a, ha, h⟩ := h
          have e0 := hT.one ha (by simp [ho, Op.operands])
          cases h; intro s; simp only [opFieldA, e0]
      · cases h
    · cases h
  · split at h
    · split at h
      · simp only [Option.bind_eq_bind, Option.bind_eq_some_iff] at h
        obtain ⟨b, hb, h⟩ := h
        cases b with
        | true =>
          simp only [if_true, Option.bind_eq_some_iff] at h
          obtain ⟨n, hn, a, ha, h⟩ := h
          have e0 := hT.one ha (by simp [ho, Op.operands])
          cases h; intro s; simp only [opFieldN, e0]
        | false =>
          simp only [Bool.false_eq_true, if_false, Option.bind_eq_some_iff] at h
          obtain ⟨a, ha, h⟩ := h
          have e0 := hT.one ha (by simp [ho, Op.operands])
          cases h; intro s; simp only [opField1, e0]
      · cases h
    · cases h
  · split at h
    · simp only [Option.bind_eq_bind, Option.bind_eq_some_iff] at h
      obtain ⟨n, hn, a, ha, b, hb, h⟩ := h
      have e1 := hT.one ha (by simp [ho, Op.operands])
      have e2 := hT.nat hb (by simp [ho, Op.operands])
      cases h; intro s; simp only [opIdxL, e1, e2]
    · simp only [Option.bind_eq_bind, Option.bind_eq_some_iff] at h
      obtain ⟨n, hn, a, ha, b, hb, h⟩ := h
      have e1 := hT.one ha (by simp [ho, Op.operands])
      have e2 := hT.nat hb (by simp [ho, Op.operands])
      cases h; intro s; simp only [opIdxA, e1, e2]
    · cases h
  · split at h
    · simp only [Option.bind_eq_bind, Option.bind_eq_some_iff] at h
      obtain ⟨a, ha, b, hb, h⟩ := h
      have e0 := hT.one ha (by simp [ho, Op.operands])
      have e1 := hT.nat hb (by simp [ho, Op.operands])
      cases h; intro s; simp only [opIdxS, e0, e1]
    · simp only [Option.bind_eq_bind, Option.bind_eq_some_iff] at h
      obtain ⟨n, hn, g, hg, a, ha, b, hb, h⟩ := h
      have e2 := hT.one ha (by simp [ho, Op.operands])
      have e3 := hT.nat hb (by simp [ho, Op.operands])
      cases h; intro s; simp only [opIdxV, e2, e3]
    · cases h
  · split at h
    · split at h
      · simp only [Option.bind_eq_bind, Option.bind_eq_some_iff] at h
        obtain ⟨z, hz, a, ha, b, hb, h⟩ := h
        have e1 := hT.one ha (by simp [ho, Op.operands])
        have e2 := hT.one hb (by simp [ho, Op.operands])
        cases h; intro s; simp only [opLookup, e1, e2]
      · cases h
    · cases h
  · split at h
    · split at h
      · simp only [Option.bind_eq_bind, Option.bind_eq_some_iff] at h
        obtain ⟨a, ha, b, hb, d, hd, h⟩ := h
        have e0 := hT.one ha (by simp [ho, Op.operands])
        have e1 := hT.one hb (by simp [ho, Op.operands])
        have e2 := hT.one hd (by simp [ho, Op.operands])
        cases h; intro s; simp only [opMapPut, e0, e1, e2]
      · cases h
    · cases h
  · split at h
    · split at h
      · simp only [Option.bind_eq_bind, Option.bind_eq_some_iff] at h
        obtain ⟨a, ha, b, hb, d, hd, h⟩ := h
        have e0 := hT.one ha (by simp [ho, Op.operands])
        have e1 := hT.one hb (by simp [ho, Op.operands])
        have e2 := hT.one hd (by simp [ho, Op.operands])
        cases h; intro s; simp only [opMapPut, e0, e1, e2]
      · cases h
    · cases h
  · simp only [Option.bind_eq_bind, Option.bind_eq_some_iff] at h
    obtain ⟨a, ha, h⟩ := h
    have e0 := hT.one ha (by simp [ho, Op.operands])
    cases h; intro s; simp only [opExtract, e0]
  · split at h
    · simp only [Option.bind_eq_bind, Option.bind_eq_some_iff] at h
      obtain ⟨a, ha, h⟩ := h
      have e0 := hT.one ha (by simp [ho, Op.operands])
      cases h; intro s; simp only [opRangeM, e0]
    · cases h
  · rename_i it isS
    cases isS with
    | true => cases h
    | false =>
      simp only [Bool.false_eq_true, if_false, Option.bind_eq_bind, Option.bind_eq_some_iff] at h
      obtain ⟨a, ha, h⟩ := h
      have e0 := hT.one ha (by simp [ho, Op.operands])
      cases h; intro s; simp only [opNextM, e0]
  · obtain ⟨k', f', e, h'⟩ := cBuiltin_same ho h hT
    cases e; exact h'
  · simp only [Option.bind_eq_bind, Option.bind_eq_some_iff] at h
    obtain ⟨a, ha, h⟩ := h
    cases h
  · simp only [Option.bind_eq_bind, Option.bind_eq_some_iff] at h
    obtain ⟨a, ha, b, hb, h⟩ := h
    cases h
  · simp only [Option.bind_eq_bind, Option.bind_eq_some_iff] at h
    obtain ⟨a, ha, b, hb, h⟩ := h
    cases h
  · cases h
end
end Go.Vt
namespace Go.Vt

/-! # What stands before an operation of a region -/
section
variable {ops : Array Oper}
def bfStep (acc : Array Nat) (o : Oper) : Array Nat := acc.push (o.after.foldl (fun s e => if Region.binds .any e then s ||| 2 ^ e.on ||| acc.getD e.on 0 else s) 0)
theorem before_eq : Region.before ops = ops.toList.foldl bfStep #[] := by
  unfold Region.before
  rw [← Array.foldl_toList]
  rfl
theorem inner_bit (acc : Array Nat) (j : Nat) : ∀ (es : List Edge) (s : Nat), (es.foldl (fun s e => if Region.binds .any e then s ||| 2 ^ e.on ||| acc.getD e.on 0 else s) s).testBit j = true →
    s.testBit j = true ∨ ∃ e ∈ es, Region.binds .any e = true ∧ (j = e.on ∨ (acc.getD e.on 0).testBit j = true)
  | [], s, h => .inl h
  | e :: es, s, h => by
    rw [List.foldl_cons] at h
    rcases inner_bit acc j es _ h with h | ⟨e', h1, h2, h3⟩
    · cases hb : Region.binds .any e with
      | false => simp [hb] at h; exact .inl h
      | true =>
        simp only [hb, if_true, Nat.testBit_or, Bool.or_eq_true, Nat.testBit_two_pow, decide_eq_true_eq] at h
        rcases h with (h | h) | h
        · exact .inl h
        · exact .inr ⟨e, by simp, hb, .inl h.symm⟩
        · exact .inr ⟨e, by simp, hb, .inr h⟩
    · exact .inr ⟨e', by simp [h1], h2, h3⟩
theorem bf_size (l : List Oper) : ∀ acc : Array Nat, (l.foldl bfStep acc).size = acc.size + l.length := by
  induction l with
  | nil => intro acc; simp
  | cons o l ih => intro acc; rw [List.foldl_cons, ih]; simp [bfStep]; omega
theorem bf_old (l : List Oper) : ∀ (acc : Array Nat) (k : Nat), k < acc.size → (l.foldl bfStep acc).getD k 0 = acc.getD k 0 := by
  induction l with
  | nil => intro acc k _; rfl
  | cons o l ih =>
    intro acc k hk
    rw [List.foldl_cons, ih _ _ (by simp [bfStep]; omega)]
    simp only [bfStep, Array.getD_eq_getD_getElem?]
    rw [Array.getElem?_push_lt hk, Array.getElem?_eq_getElem hk]
theorem bf_new (l : List Oper) : ∀ (acc : Array Nat) (i : Nat) (o : Oper) (j : Nat), l[i]? = some o → ((l.foldl bfStep acc).getD (acc.size + i) 0).testBit j = true →
    ∃ e ∈ o.after.toList, Region.binds .any e = true ∧ (j = e.on ∨ (e.on < acc.size + i ∧ ((l.foldl bfStep acc).getD e.on 0).testBit j = true)) := by
  induction l with
  | nil => intro acc i o j h; simp at h
  | cons p l ih =>
    intro acc i o j h hb
    rw [List.foldl_cons] at hb ⊢
    cases i with
    | zero =>
      simp at h; subst h
      rw [Nat.add_zero, bf_old l _ _ (by simp [bfStep])] at hb
      have hnew : (bfStep acc p).getD acc.size 0 = p.after.foldl (fun s e => if Region.binds .any e then s ||| 2 ^ e.on ||| acc.getD e.on 0 else s) 0 := by
        simp only [bfStep, Array.getD_eq_getD_getElem?]
        rw [Array.getElem?_push_size]; rfl
      rw [hnew, ← Array.foldl_toList] at hb
      rcases inner_bit acc j _ _ hb with hb | ⟨e, h1, h2, h3⟩
      · simp at hb
      · refine ⟨e, h1, h2, h3.imp id fun h3 => ?_⟩
        have hlt : e.on < acc.size := by
          rcases Nat.lt_or_ge e.on acc.size with hl | hl
          · exact hl
          · rw [Array.getD_eq_getD_getElem?, Array.getElem?_eq_none hl] at h3
            simp at h3
        refine ⟨by omega, ?_⟩
        rw [bf_old l _ _ (by simp [bfStep]; omega)]
        have : (bfStep acc p).getD e.on 0 = acc.getD e.on 0 := bf_old [p] acc e.on hlt
        rw [this]; exact h3
    | succ i =>
      have hs : (bfStep acc p).size + i = acc.size + (i + 1) := by simp [bfStep]; omega
      have := ih (bfStep acc p) i o j (by simpa using h) (by rw [hs]; exact hb)
      rw [hs] at this
      exact this
theorem before_bit {i j : Nat} {o : Oper} (ho : ops[i]? = some o) (h : ((Region.before ops).getD i 0).testBit j = true) :
    ∃ e ∈ o.after.toList, Region.binds .any e = true ∧ (j = e.on ∨ (e.on < i ∧ ((Region.before ops).getD e.on 0).testBit j = true)) := by
  rw [before_eq] at h ⊢
  have := bf_new ops.toList #[] i o j (by simpa using ho) (by simpa using h)
  simpa using this

/-- what is listed is listed with all that it waits for -/
theorem before_listed {L : Nat → Prop} (down : ∀ i o, ops[i]? = some o → L i → ∀ e ∈ o.after.toList, Region.binds .any e = true → L e.on) : ∀ (i : Nat) (o : Oper), ops[i]? = some o → (∀ e ∈ o.after.toList, Region.binds .any e = true → L e.on) →
    ∀ j, ((Region.before ops).getD i 0).testBit j = true → L j := by
  intro i
  induction i using Nat.strongRecOn with
  | _ i ih =>
    intro o ho hl j hj
    obtain ⟨e, h1, h2, h3⟩ := before_bit ho hj
    rcases h3 with rfl | ⟨hlt, h3⟩
    · exact hl e h1 h2
    · have hsz : i < ops.size := (Array.getElem?_eq_some_iff.1 ho).1
      have ho' : ops[e.on]? = some ops[e.on] := Array.getElem?_eq_getElem (by omega)
      exact ih e.on hlt _ ho' (down _ _ ho' (hl e h1 h2)) j h3

/-! ## A region that draws, as it was checked -/
structure DrawOk (ops : Array Oper) : Prop where
  on : ∀ (i : Nat) (o : Oper), ops[i]? = some o → ∀ e ∈ o.after.toList, Region.binds .any e = true → e.on < i
  dst : ∀ (i j : Nat) (o p : Oper) (t : Nat), ops[i]? = some o → ops[j]? = some p → i ≠ j → p.dst = some t → o.dst ≠ some t
  look : ∀ (i j : Nat) (o p : Oper) (t : Nat), ops[i]? = some o → ops[j]? = some p → i ≠ j → p.dst = some t → t ∈ o.looksAt ops → ((Region.before ops).getD i 0).testBit j = true ∨ ((Region.before ops).getD j 0).testBit i = true
theorem drawOk_ok (h : drawOk ops = true) : DrawOk ops := by
  unfold drawOk at h
  rw [List.all_eq_true] at h
  have hm : ∀ {i : Nat} {o : Oper}, ops[i]? = some o → (o, i) ∈ ops.toList.zipIdx := by
    intro i o ho
    rw [List.mem_zipIdx_iff_getElem?]
    simpa using ho
  refine ⟨fun i o ho e he hb => ?_, fun i j o p t ho hp hij hd => ?_, fun i j o p t ho hp hij hd hl => ?_⟩
  · have := h _ (hm ho)
    simp only [Bool.and_eq_true, List.all_eq_true] at this
    have := this.1 e he
    simp only [hb, Bool.not_true, Bool.false_or] at this
    exact blt_true this
  · have := h _ (hm ho)
    simp only [Bool.and_eq_true, List.all_eq_true] at this
    have := this.2 _ (hm hp)
    simp only [hd, orec_some, Bool.or_eq_true, Bool.and_eq_true] at this
    rcases this with h1 | h1
    · exact absurd (Nat.eq_of_beq_eq_true h1) hij
    · simpa using h1.1
  · have := h _ (hm ho)
    simp only [Bool.and_eq_true, List.all_eq_true] at this
    have := this.2 _ (hm hp)
    simp only [hd, orec_some, Bool.or_eq_true, Bool.and_eq_true] at this
    rcases this with h1 | ⟨_, (h1 | h1) | h1⟩
    · exact absurd (Nat.eq_of_beq_eq_true h1) hij
    · simp at h1; exact absurd hl h1
    · exact .inl h1
    · exact .inr h1
end
end Go.Vt
