/- The operations, continued: append and copy, make, literals. -/
import Derived.Test.YtcjocjoaphpclaaDoorSpOps4
namespace Go.Sp

section
variable {P : Program} {tt : TT} (hT : TOk P tt) {H H' : AHeap} {R : Ren} {w : World}

/-- What an append does behind its look at the operands. -/
def appendTail (elem : TypeId) (size : Nat) (base : Option Addr) (sLen sCap n : Nat) (zeros : Bool) (appended : Sem (Array Value)) (x : Value) : Sem Value := do
  let need := sLen + n
  if need ≤ sCap then
    let new ← appended
    if let some a := base then storeCells (a.add (sLen * size)) new.toList
    pure (.slice base need sCap)
  else
    if (need : Int) > IntKind.i64.max ∧ (zeros ∨ (← typeInfo elem).bytes = 0) then runtimePanic (.error "growslice: len out of range")
    if Builtin.nextslicecap need sCap * (← typeInfo elem).bytes > 2 ^ 48 then (if zeros then runtimePanic (.error "growslice: len out of range") else do
      if !(← Builtin.mayShare size sLen n base x) then mark .noRoom
      unsupported (.resourceLimit "append: a slice or a string whose bytes no memory bears"))
    let newCap ← choose (.appendCap need sCap elem)
    askRoom (newCap * (← typeInfo elem).bytes)
    let old ← Builtin.firstCells size sLen (.slice base sLen sCap)
    let new ← appended
    let rest := Builtin.zeroCells (← zeroValue elem).cells (newCap - need)
    pure (.slice (some (← newRow elem (old ++ new ++ rest))) need newCap)

theorem roomy_fits {n bytes old : Nat} (h : roomy n bytes = true) (ho : old < n) : Builtin.nextslicecap n old * bytes ≤ 281474976710656 := by
  have h := Nat.le_of_ble_eq_true h
  have h1 := nextslicecap_le ho
  have : Builtin.nextslicecap n old * bytes ≤ (4 * n + 4096) * bytes := Nat.mul_le_mul_right _ (by omega)
  omega
theorem roomy_len {n bytes : Nat} (h : roomy n bytes = true) (hb : 0 < bytes) : (n : Int) ≤ 9223372036854775807 := by
  have h := Nat.le_of_ble_eq_true h
  have : (4 * n + 4096) * 1 ≤ (4 * n + 4096) * bytes := Nat.mul_le_mul_left _ hb
  omega

include hT in
theorem tail_grow {elem : TypeId} {ie : TI} (hie : tt elem = some ie) {z : Value} (hz : ie.zero = some z) {base : Option Addr} {sLen sCap n : Nat} {zeros : Bool} {appended : Sem (Array Value)} {x : Value}
    {olds news : List Value} (hold : ∀ w2 : World, w2.heap = w.heap → (Builtin.firstCells ie.size sLen (.slice base sLen sCap)).run P w2 = .ok olds.toArray w2)
    (hnew : ∀ w2 : World, w2.heap = w.heap → appended.run P w2 = .ok news.toArray w2) (hg : sCap < sLen + n) (hroom : roomy (sLen + n) ie.bytes = true) (hb : 0 < ie.bytes) :
    (appendTail elem ie.size base sLen sCap n zeros appended x).run P w = .ok (.slice (some ⟨w.heap.size, 0, none⟩) (sLen + n) (grownCap w (sLen + n) sCap elem))
      (w.drew.alloc (.cells (olds ++ news ++ (Builtin.zeroCells z.cells (grownCap w (sLen + n) sCap elem - (sLen + n))).toList).toArray elem)) := by
  have h0 : ¬ (sLen + n ≤ sCap) := by omega
  have h1 := roomy_len hroom hb
  have h1' : ¬ (9223372036854775807 < ((sLen : Int) + (n : Int))) := by omega
  have h2 := roomy_fits hroom hg
  obtain ⟨inf, hinf, _, hbt, _⟩ := hT.run_bytes hie w
  have hti : ∀ w2 : World, (typeInfo elem).run P w2 = .ok inf w2 := fun w2 => by
    obtain ⟨inf2, hinf2, _⟩ := hT.run_bytes hie w2
    have : P.info? elem = some inf := by
      simp only [typeInfo, Sem.run_bind, run_program, Result.andThen_ok] at hinf
      cases hq : P.info? elem with
      | none => rw [hq] at hinf; simp at hinf
      | some i => rw [hq] at hinf; simp at hinf; rw [hinf]
    simp [typeInfo, this]
  have h2' : ¬ (281474976710656 < Builtin.nextslicecap (sLen + n) sCap * inf.bytes) := by rw [hbt]; omega
  have hmax : IntKind.i64.max = 9223372036854775807 := rfl
  have hq : (Question.appendCap (sLen + n) sCap elem).forced = false := rfl
  have e1 := hold w.drew rfl
  have e2 := hnew w.drew rfl
  have e3 := hT.run_zero hie hz w.drew
  simp [appendTail, h0, hmax, h1', hti, h2', hq, e1, e2, e3, newRow, grownCap]
  congr 2
  apply Array.ext'
  simp [List.append_assoc]

theorem tail_room {elem : TypeId} {size : Nat} {c o sLen sCap n : Nat} {zeros : Bool} {appended : Sem (Array Value)} {x : Value} {news : List Value}
    (hnew : appended.run P w = .ok news.toArray w) (hg : sLen + n ≤ sCap) {C : Array Value} {t : TypeId} (hC : w.heap[c]? = some (.cells C t (0, 0))) (hfit : o + sLen * size + news.length ≤ C.size)
    (hone : ∀ v ∈ news, v.oneCell' = true) :
    (appendTail elem size (some ⟨c, o, none⟩) sLen sCap n zeros appended x).run P w = .ok (.slice (some ⟨c, o, none⟩) (sLen + n) sCap)
      (w.setRow c (C.toList.take (o + sLen * size) ++ news ++ C.toList.drop (o + sLen * size + news.length)).toArray) := by
  have := run_storeCells_at P c (o + sLen * size) t news 0 C w hC (by simpa using hfit) hone
  simp [appendTail, hg, hnew, add_plain, this]

theorem tail_none {elem : TypeId} {size : Nat} {base : Option Addr} {sLen sCap : Nat} {zeros : Bool} {appended : Sem (Array Value)} {x : Value}
    (hnew : appended.run P w = .ok #[] w) (hg : sLen ≤ sCap) :
    (appendTail elem size base sLen sCap 0 zeros appended x).run P w = .ok (.slice base sLen sCap) w := by
  cases base <;> simp [appendTail, hg, hnew, storeCells]

theorem zeroCells_length (z : Array Value) (n : Nat) : (Builtin.zeroCells z n).toList.length = n * z.size := by simp [Builtin.zeroCells]
theorem le_grownCap (w : World) (n old : Nat) (e : TypeId) : n ≤ grownCap w n old e := by
  unfold grownCap Question.cut; exact Nat.le_add_right _ _

include hT in
theorem append_core (hs : Sim H R w) {elem : TypeId} {ie : TI} (hie : tt elem = some ie) {z : Value} (hz : ie.zero = some z) (hzs : (cellsOf z).length = ie.size) (hb : 0 < ie.bytes)
    {s s' v : Value} (hsv : VR R s s') {n : Nat} {new zs : List Value} (hnz : VRL R new zs) (hnl : new.length = n * ie.size) (h : aappendCells H ie.size ie.bytes s n new = some (v, H')) {zeros : Bool} {appended : Sem (Array Value)} {x : Value}
    (happ : ∀ w2 : World, w2.heap = w.heap → appended.run P w2 = .ok zs.toArray w2) :
    ∃ base sLen sCap, s' = .slice base sLen sCap ∧ ∃ u w' R', (appendTail elem ie.size base sLen sCap n zeros appended x).run P w = .ok u w' ∧ VR R' v u ∧ Post H R w H' R' w' := by
  have hzlen : z.cells.size = ie.size := by
    rw [← Array.length_toList, ← (cellsOf_plain (R := R) (hT.plain _ _ _ hie hz)).1]; exact hzs
  have hnil : n = 0 → zs = [] := fun e => by
    have := hnz.1; rw [hnl, e] at this; simp at this; exact List.eq_nil_of_length_eq_zero this.symm
  have grown : ∀ (sLen cap' : Nat) (olds : List Value), olds.length = sLen * ie.size →
      0 + (grownCap w (sLen + n) cap' elem) * ie.size ≤ (olds ++ zs ++ (Builtin.zeroCells z.cells (grownCap w (sLen + n) cap' elem - (sLen + n))).toList).length := fun sLen cap' olds ho => by
    have hge := le_grownCap w (sLen + n) cap' elem
    simp only [List.length_append, zeroCells_length, ho, ← hnz.1, hnl, hzlen, ← Nat.add_mul]
    rw [Nat.zero_add]
    exact Nat.mul_le_mul_right _ (by omega)
  cases hsl : vSl s with
  | none =>
    unfold aappendCells at h
    rw [hsl, oo_none] at h
    cases hf : vFs s with
    | some f =>
      rw [hf, oo_some] at h
      unfold aappendFs at h
      rw [bb_eq] at h
      split at h
      · rename_i h0
        have h0 := Nat.eq_of_beq_eq_true h0
        subst h0
        injection h with h; injection h with e1 e2; subst e1; subst e2
        have hz0 := hnil rfl
        subst hz0
        rcases hsv.fs_l hf with ⟨_, _, rfl⟩ | ⟨_, _, _, c, o, rfl⟩ | ⟨c, o, cap, C, hro, rfl, hn, k1, k2, k3, hfit, hcr, hcl⟩
        · exact ⟨_, _, _, rfl, _, _, R, tail_none (happ w rfl) (Nat.le_refl 0), hsv, .refl hs⟩
        · exact ⟨_, _, _, rfl, _, _, R, tail_none (happ w rfl) (Nat.le_refl 0), hsv, .refl hs⟩
        · exact ⟨_, _, _, rfl, _, _, R, tail_none (happ w rfl) k1, hsv, .refl hs⟩
      · rename_i h0
        have h0 : n ≠ 0 := fun e => h0 (by rw [e]; rfl)
        obtain ⟨hc, h1⟩ := bb_inv h
        obtain ⟨hfl, hc⟩ := an_inv hc
        obtain ⟨hszz, hroom⟩ := an_inv hc
        injection h1 with h1; injection h1 with e1 e2; subst e1; subst e2
        simp only [appL_eq]
        have fresh : ∀ (base : Option Addr) (olds : List Value), VRL R f.cs olds → f.cs.length = f.n * ie.size →
            (∀ w2 : World, w2.heap = w.heap → (Builtin.firstCells ie.size f.n (.slice base f.n f.n)).run P w2 = .ok olds.toArray w2) →
            ∃ u w' R', (appendTail elem ie.size base f.n f.n n zeros appended x).run P w = .ok u w' ∧ VR R' (sliceAt H.next 0 ie.size (f.n + n) (f.n + n) false) u ∧
              Post H R w (H.push (.cells (f.cs ++ new) false false [])) R' w' := fun base olds hxo hxl hold => by
          have hrun := tail_grow (P := P) (w := w) (n := n) (sLen := f.n) (sCap := f.n) (base := base) (zeros := zeros) (x := x) hT hie hz hold happ (by omega) hroom hb
          have hd : Sim H R w.drew := hs.of_heap rfl
          have hpost := post_cells (w := w.drew) (xs := f.cs ++ new) (ys := olds ++ zs) elem (Builtin.zeroCells z.cells (grownCap w (f.n + n) f.n elem - (f.n + n))).toList false hd (hxo.append hnz) false [] (by simp)
          refine ⟨_, _, _, hrun, ?_, hpost.from_heap rfl rfl rfl⟩
          have := VR.sl (R := R.ext H.next w.drew.heap.size 0 ((olds ++ zs) ++ (Builtin.zeroCells z.cells (grownCap w (f.n + n) f.n elem - (f.n + n))).toList).length) (off := 0) (sz := ie.size) (ln := f.n + n) (c2 := 2 * (f.n + n) + bb false 1 0) (cap := grownCap w (f.n + n) f.n elem)
            (Ren.ext_new R H.next w.drew.heap.size 0 _) (by rw [sliceAt_half]; exact Nat.le_refl _) (by rw [sliceAt_half]; exact le_grownCap w (f.n + n) f.n elem) (fun ho => by rw [sliceAt_odd] at ho; cases ho)
            (by rw [Ren.ext_sz]; have := grown f.n f.n olds (by rw [← hxo.1, hxl]); simpa using this)
          simpa [sliceAt] using this
        rcases hsv.fs_l hf with ⟨hn0, hcs, rfl⟩ | ⟨_, hn0, hcs, c, o, rfl⟩ | ⟨c, o, cap, C, hro, rfl, hn, k1, k2, k3, hfit, hcr, hcl⟩
        · have f0 : ∀ w2 : World, w2.heap = w.heap → (Builtin.firstCells ie.size f.n (.slice none f.n f.n)).run P w2 = .ok ([] : List Value).toArray w2 := fun w2 _ => by
            rw [hn0]; simp [run_firstCells_none]
          obtain ⟨u, w', R', hr, hv, hp⟩ := fresh none [] (by rw [hcs]; exact .nil) (by rw [hcs, hn0]; simp) f0
          rw [hn0] at hr
          exact ⟨_, _, _, rfl, u, w', R', hr, hv, hp⟩
        · have f0 : ∀ w2 : World, w2.heap = w.heap → (Builtin.firstCells ie.size f.n (.slice (some ⟨c, o, none⟩) f.n f.n)).run P w2 = .ok ([] : List Value).toArray w2 := fun w2 _ => by
            rw [hn0]; simp [Builtin.firstCells, loadCells, loadCellsFrom]
          obtain ⟨u, w', R', hr, hv, hp⟩ := fresh (some ⟨c, o, none⟩) [] (by rw [hcs]; exact .nil) (by rw [hcs, hn0]; simp) f0
          rw [hn0] at hr
          exact ⟨_, _, _, rfl, u, w', R', hr, hv, hp⟩
        · have hfl1 : f.fl = 1 := by
            rw [orr_eq, Bool.or_eq_true] at hfl
            rcases hfl with h9 | h9
            · exact Nat.eq_of_beq_eq_true h9
            · exact absurd (Nat.eq_of_beq_eq_true h9) k3
          have hcap := k2 hfl1
          subst hcap
          have hsz : f.sz = ie.size := by
            rw [orr_eq, Bool.or_eq_true] at hszz
            rcases hszz with h9 | h9
            · exact absurd (Nat.eq_of_beq_eq_true h9) k3
            · exact Nat.eq_of_beq_eq_true h9
          rw [hsz] at hn
          obtain ⟨⟨ty, fz, hC⟩, _⟩ := hs.ro c C hro
          have hst := stretch hcr hfit 0 f.cs.length (by omega)
          simp only [List.drop_zero, Nat.add_zero, List.take_length] at hst
          have f0 : ∀ w2 : World, w2.heap = w.heap → (Builtin.firstCells ie.size f.n (.slice (some ⟨c, o, none⟩) f.n f.n)).run P w2 = .ok ((C.toList.drop o).take f.cs.length).toArray w2 := fun w2 hw2 => by
            simp only [Builtin.firstCells]
            rw [hn]
            exact run_stretch (by rw [hw2]; exact hC) (by omega)
          obtain ⟨u, w', R', hr, hv, hp⟩ := fresh _ _ hst hn f0
          exact ⟨_, _, _, rfl, u, w', R', hr, hv, hp⟩
    | none =>
    rw [hf, oo_none] at h
    obtain ⟨hn, h1⟩ := bb_inv h
    have := isNilSl_true hn; subst this
    have := hsv.slNil_l; subst this
    refine ⟨none, 0, 0, rfl, ?_⟩
    rw [bb_eq] at h1
    split at h1
    · rename_i h0
      have h0 := Nat.eq_of_beq_eq_true h0
      subst h0
      injection h1 with h1; injection h1 with e1 e2; subst e1; subst e2
      have hz0 := hnil rfl
      subst hz0
      exact ⟨_, _, R, tail_none (happ w rfl) (Nat.le_refl 0), .slNil, .refl hs⟩
    · rename_i h0
      have h0 : n ≠ 0 := fun e => h0 (by rw [e]; rfl)
      obtain ⟨hroom, h2⟩ := bb_inv h1
      injection h2 with h2; injection h2 with e1 e2; subst e1; subst e2
      have hrun := tail_grow (P := P) (w := w) (n := n) (sLen := 0) (sCap := 0) (base := none) (zeros := zeros) (x := x) (olds := []) hT hie hz (fun w2 _ => by simp [run_firstCells_none]) happ (by omega) (by simpa using hroom) hb
      have hd : Sim H R w.drew := hs.of_heap rfl
      have hpost := post_cells (w := w.drew) (xs := new) (ys := [] ++ zs) elem (Builtin.zeroCells z.cells (grownCap w (0 + n) 0 elem - (0 + n))).toList false hd (by simpa using hnz) false [] (by simp)
      refine ⟨_, _, _, hrun, ?_, hpost.from_heap rfl rfl rfl⟩
      have := VR.sl (R := R.ext H.next w.drew.heap.size 0 (([] ++ zs) ++ (Builtin.zeroCells z.cells (grownCap w (0 + n) 0 elem - (0 + n))).toList).length) (off := 0) (sz := ie.size) (ln := n) (c2 := 2 * n + bb false 1 0) (cap := grownCap w (0 + n) 0 elem)
        (Ren.ext_new R H.next w.drew.heap.size 0 _) (by rw [sliceAt_half]; exact Nat.le_refl _) (by rw [sliceAt_half]; have := le_grownCap w (0 + n) 0 elem; omega) (fun ho => by rw [sliceAt_odd] at ho; cases ho)
        (by rw [Ren.ext_sz]; have := grown 0 0 [] (by simp); simpa using this)
      simpa [sliceAt] using this
  | some sv =>
    have hsv0 := vSl_some hsl
    unfold aappendCells at h
    rw [hsl, oo_some] at h
    have h : bb (Nat.beq n 0) (some (s, H)) (bb (an (Nat.beq sv.sz ie.size) (roomy (sv.len + n) ie.bytes))
      (bb (Nat.ble (sv.len + n) (sv.cap / 2)) (oo (awrite H sv.id (sv.off + sv.len * ie.size) new) none fun H' => some (.slice (some ⟨sv.id, sv.off, some ie.size⟩) (sv.len + n) sv.cap, H'))
        (oo (oCells (H.get sv.id)) none fun o =>
          bb (Nat.ble (sv.off + sv.len * ie.size) (len o.xs))
            (bb (Nat.beq (sv.cap % 2) 1) (some (sliceAt H.next 0 ie.size (sv.len + n) (sv.len + n) false, H.push (.cells (appL (takeL (sv.len * ie.size) (dropL sv.off o.xs)) new) false false [])))
              (bb (an (nt o.imm) (an (nt o.spent) (an (Nat.blt sv.id H.next) (an (Nat.beq (sv.off + sv.len * ie.size) (len o.xs)) (allL scalarB new)))))
                (some (sliceAt H.next 0 ie.size (sv.len + n) (sv.len + n) false, (H.set sv.id (.cells o.xs false true o.anc)).push (.cells (appL (dropL sv.off o.xs) new) false false (sv.id :: o.anc)))) none)) none)) none) = some (v, H') := h
    rw [bb_eq] at h
    split at h
    · rename_i h0
      have h0 := Nat.eq_of_beq_eq_true h0
      subst h0
      injection h with h; injection h with e1 e2; subst e1; subst e2
      have hz0 := hnil rfl
      subst hz0
      rcases hsv.sl_l hsl with ⟨c, β, cap, hid, rfl, k1, k2, k3, k4⟩ | ⟨c, o, rfl, k0, k00⟩ | ⟨rfl, k0, k00⟩
      · exact ⟨_, _, _, rfl, _, _, R, tail_none (happ w rfl) (Nat.le_trans k1 k2), hsv, .refl hs⟩
      · exact ⟨_, _, _, rfl, _, _, R, tail_none (happ w rfl) (Nat.le_refl 0), hsv, .refl hs⟩
      · exact ⟨_, _, _, rfl, _, _, R, tail_none (happ w rfl) (Nat.le_refl 0), hsv, .refl hs⟩
    · rename_i h0
      have h0 : n ≠ 0 := fun e => h0 (by rw [e]; rfl)
      obtain ⟨hc, h1⟩ := bb_inv h
      obtain ⟨hc1, hroom⟩ := an_inv hc
      have hc1 := Nat.eq_of_beq_eq_true hc1
      rw [bb_eq] at h1
      split at h1
      · rename_i hfit
        have hfit := Nat.le_of_ble_eq_true hfit
        obtain ⟨H1, hw, h2⟩ := oo_inv h1
        injection h2 with h2; injection h2 with e1 e2; subst e1; subst e2
        rcases hsv.sl_l hsl with ⟨c, β, cap, hid, rfl, k1, k2, k3, k4⟩ | ⟨c, o, rfl, k0, k00⟩ | ⟨rfl, k0, k00⟩
        · obtain ⟨C, t, hC, hcf, hone, hpost⟩ := post_write hs hw hid hnz
          refine ⟨_, _, _, rfl, _, _, R, tail_room (happ w rfl) (by omega) hC (by rw [← Nat.add_assoc] at hcf; exact hcf) hone, .sl hid hfit k2 k3 (by rw [← hc1]; exact k4), ?_⟩
          rw [show β + sv.off + sv.len * ie.size = β + (sv.off + sv.len * ie.size) by omega]
          exact hpost
        · omega
        · omega
      · rename_i hfit
        have hfit : ¬ (sv.len + n ≤ sv.cap / 2) := fun e => hfit (by rw [Nat.ble_eq]; exact e)
        obtain ⟨o, ho, h2⟩ := oo_inv h1
        obtain ⟨hle, h3⟩ := bb_inv h2
        simp only [len_eq] at hle
        have hle := Nat.le_of_ble_eq_true hle
        have ho' := oCells_some ho
        have hlt1 : ((o.xs.drop sv.off).take (sv.len * ie.size)).length = sv.len * ie.size := by simp; omega
        -- the new array, whatever the slice's kind
        have fresh : ∀ (base : Option Addr) (cap : Nat) (H1 : AHeap) (anc : List Nat) (olds : List Value) (xs1 : List Value), cap < sv.len + n → H1.next = H.next → Sim H1 R w → VRL R xs1 olds → xs1.length = sv.len * ie.size →
            (∀ a, a ∈ anc → a < H1.next ∧ (H1.get a).immB = false ∧ (H1.get a).writable = false) →
            (∀ w2 : World, w2.heap = w.heap → (Builtin.firstCells ie.size sv.len (.slice base sv.len cap)).run P w2 = .ok olds.toArray w2) →
            ∃ u w' R', (appendTail elem ie.size base sv.len cap n zeros appended x).run P w = .ok u w' ∧ VR R' (sliceAt H.next 0 ie.size (sv.len + n) (sv.len + n) false) u ∧
              Post H1 R w (H1.push (.cells (xs1 ++ new) false false anc)) R' w' := fun base cap H1 anc olds xs1 hcap hnx hs1 hxo hxl hanc hold => by
          have hrun := tail_grow (P := P) (w := w) (n := n) (sLen := sv.len) (sCap := cap) (base := base) (zeros := zeros) (x := x) hT hie hz hold happ hcap hroom hb
          have hd : Sim H1 R w.drew := hs1.of_heap rfl
          have hpost := post_cells (w := w.drew) (xs := xs1 ++ new) (ys := olds ++ zs) elem (Builtin.zeroCells z.cells (grownCap w (sv.len + n) cap elem - (sv.len + n))).toList false hd (hxo.append hnz) false anc hanc
          refine ⟨_, _, _, hrun, ?_, hpost.from_heap rfl rfl rfl⟩
          have := VR.sl (R := R.ext H1.next w.drew.heap.size 0 ((olds ++ zs) ++ (Builtin.zeroCells z.cells (grownCap w (sv.len + n) cap elem - (sv.len + n))).toList).length) (off := 0) (sz := ie.size) (ln := sv.len + n) (c2 := 2 * (sv.len + n) + bb false 1 0) (cap := grownCap w (sv.len + n) cap elem)
            (Ren.ext_new R H1.next w.drew.heap.size 0 _) (by rw [sliceAt_half]; exact Nat.le_refl _) (by rw [sliceAt_half]; exact le_grownCap w (sv.len + n) cap elem) (fun ho => by rw [sliceAt_odd] at ho; cases ho)
            (by rw [Ren.ext_sz]; have := grown sv.len cap olds (by rw [← hxo.1, hxl]); simpa using this)
          rw [hnx] at this
          simpa [sliceAt, hnx] using this
        have oldsOf : ∀ (c β cap : Nat), R.f sv.id = some (c, β) → ∃ olds : List Value, VRL R ((o.xs.drop sv.off).take (sv.len * ie.size)) olds ∧
            ∀ w2 : World, w2.heap = w.heap → (Builtin.firstCells ie.size sv.len (.slice (some ⟨c, β + sv.off, none⟩) sv.len cap)).run P w2 = .ok olds.toArray w2 := fun c β cap hid => by
          obtain ⟨C, t, fz, hC, hsz, hcf, hcr⟩ := hs.cells hid ho
          refine ⟨_, stretch hcr hcf sv.off (sv.len * ie.size) hle, fun w2 hw2 => ?_⟩
          simp only [Builtin.firstCells]
          exact run_stretch (by rw [hw2]; exact hC) (by omega)
        rw [bb_eq] at h3
        split at h3
        · rename_i hex
          have hex := Nat.eq_of_beq_eq_true hex
          injection h3 with h3; injection h3 with e1 e2; subst e1; subst e2
          simp only [appL_eq, takeL_eq, dropL_eq]
          rcases hsv.sl_l hsl with ⟨c, β, cap, hid, rfl, k1, k2, k3, k4⟩ | ⟨c, o2, rfl, k0, k00⟩ | ⟨rfl, k0, k00⟩
          · obtain ⟨olds, hol, hold⟩ := oldsOf c β cap hid
            obtain ⟨u, w', R', hr, hv, hp⟩ := fresh _ cap H [] olds _ (by have := k3 hex; omega) rfl hs hol hlt1 (by simp) hold
            exact ⟨_, _, _, rfl, u, w', R', hr, hv, hp⟩
          · have hnone : (o.xs.drop sv.off).take (sv.len * ie.size) = [] := by rw [k0]; simp
            have f0 : ∀ w2 : World, w2.heap = w.heap → (Builtin.firstCells ie.size sv.len (.slice (some ⟨c, o2, none⟩) sv.len 0)).run P w2 = .ok ([] : List Value).toArray w2 := fun w2 _ => by
              rw [k0]; simp [Builtin.firstCells, loadCells, loadCellsFrom]
            obtain ⟨u, w', R', hr, hv, hp⟩ := fresh (some ⟨c, o2, none⟩) 0 H [] [] [] (by omega) rfl hs .nil (by rw [k0]; simp) (by simp) f0
            rw [hnone]
            rw [k0] at hr
            exact ⟨_, _, _, rfl, u, w', R', by rw [k0] at *; exact hr, hv, hp⟩
          · have hnone : (o.xs.drop sv.off).take (sv.len * ie.size) = [] := by rw [k0]; simp
            have f0 : ∀ w2 : World, w2.heap = w.heap → (Builtin.firstCells ie.size sv.len (.slice none sv.len 0)).run P w2 = .ok ([] : List Value).toArray w2 := fun w2 _ => by
              rw [k0]; simp [run_firstCells_none]
            obtain ⟨u, w', R', hr, hv, hp⟩ := fresh none 0 H [] [] [] (by omega) rfl hs .nil (by rw [k0]; simp) (by simp) f0
            rw [hnone]
            rw [k0] at hr
            exact ⟨_, _, _, rfl, u, w', R', by rw [k0] at *; exact hr, hv, hp⟩
        · rename_i hex
          obtain ⟨hcond, h4⟩ := bb_inv h3
          simp only [an_eq, nt_eq, len_eq, allL_eq, Bool.and_eq_true, Bool.not_eq_true'] at hcond
          obtain ⟨himm, hsp, hltn, htip, hall⟩ := hcond
          rw [Nat.blt_eq] at hltn
          have htip := Nat.eq_of_beq_eq_true htip
          injection h4 with h4; injection h4 with e1 e2; subst e1; subst e2
          simp only [appL_eq, dropL_eq]
          rw [himm, hsp] at ho'
          have htake : (o.xs.drop sv.off).take (sv.len * ie.size) = o.xs.drop sv.off := List.take_of_length_le (by simp; omega)
          have hspend := post_spend hs ho'
          have hanc : ∀ a, a ∈ sv.id :: o.anc → a < (H.set sv.id (.cells o.xs false true o.anc)).next ∧ ((H.set sv.id (.cells o.xs false true o.anc)).get a).immB = false ∧ ((H.set sv.id (.cells o.xs false true o.anc)).get a).writable = false := by
            intro a ha
            rw [AHeap.next_set, AHeap.get_set]
            simp only [List.mem_cons] at ha
            rcases ha with rfl | ha
            · rw [if_pos rfl]; exact ⟨hltn, rfl, rfl⟩
            · have h9 := hs.anc sv.id a (by rw [ho']; exact ha)
              split
              · exact ⟨h9.1, rfl, rfl⟩
              · exact h9
          rcases hsv.sl_l hsl with ⟨c, β, cap, hid, rfl, k1, k2, k3, k4⟩ | ⟨c, o2, rfl, k0, k00⟩ | ⟨rfl, k0, k00⟩
          · by_cases hin : sv.len + n ≤ cap
            · obtain ⟨C, t, fz, hC, hsz, hcf, hcr, hfz⟩ := (by have h9 := hs.obj sv.id c β hid; rw [ho'] at h9; exact h9)
              have hfz := hfz rfl; subst hfz
              have hmul : (sv.len + n) * ie.size ≤ cap * ie.size := Nat.mul_le_mul_right _ hin
              rw [Nat.add_mul] at hmul
              have hzl := hnz.1
              have hfit2 : β + o.xs.length + zs.length ≤ C.size := by rw [hc1] at k4; omega
              have hpost := post_tip (off := sv.off) hs ho' hid (by omega) hnz hC hfit2
              have hrun := tail_room (P := P) (w := w) (elem := elem) (size := ie.size) (zeros := zeros) (x := x) (n := n) (sLen := sv.len) (o := β + sv.off) (happ w rfl) hin hC (by omega) (oneCells_of hnz hall)
              rw [show β + sv.off + sv.len * ie.size = β + o.xs.length by omega] at hrun
              refine ⟨_, _, _, rfl, _, _, _, hrun, ?_, hpost⟩
              have := VR.sl (R := R.ext H.next c (β + sv.off) (R.sz c)) (off := 0) (sz := ie.size) (ln := sv.len + n) (c2 := 2 * (sv.len + n) + bb false 1 0) (cap := cap) (Ren.ext_new R H.next c (β + sv.off) _)
                (by rw [sliceAt_half]; exact Nat.le_refl _) (by rw [sliceAt_half]; exact hin) (fun ho => by rw [sliceAt_odd] at ho; cases ho) (by rw [Ren.ext_sz]; rw [hc1] at k4; simpa using k4)
              simpa [sliceAt] using this
            · obtain ⟨olds, hol, hold⟩ := oldsOf c β cap hid
              rw [htake] at hol
              obtain ⟨u, w', R', hr, hv, hp⟩ := fresh _ cap (H.set sv.id (.cells o.xs false true o.anc)) (sv.id :: o.anc) olds _ (by omega) (by simp) hspend.sim hol (by simp; omega) hanc hold
              exact ⟨_, _, _, rfl, u, w', R', hr, hv, hspend.trans hp hs⟩
          · have hdrop : o.xs.drop sv.off = [] := by apply List.drop_eq_nil_of_le; rw [k0] at htip; omega
            have f0 : ∀ w2 : World, w2.heap = w.heap → (Builtin.firstCells ie.size sv.len (.slice (some ⟨c, o2, none⟩) sv.len 0)).run P w2 = .ok ([] : List Value).toArray w2 := fun w2 _ => by
              rw [k0]; simp [Builtin.firstCells, loadCells, loadCellsFrom]
            obtain ⟨u, w', R', hr, hv, hp⟩ := fresh (some ⟨c, o2, none⟩) 0 (H.set sv.id (.cells o.xs false true o.anc)) (sv.id :: o.anc) [] [] (by omega) (by simp) hspend.sim .nil (by rw [k0]; simp) hanc f0
            rw [hdrop]
            rw [k0] at hr
            exact ⟨_, _, _, rfl, u, w', R', by rw [k0] at *; exact hr, hv, hspend.trans hp hs⟩
          · have hdrop : o.xs.drop sv.off = [] := by apply List.drop_eq_nil_of_le; rw [k0] at htip; omega
            have f0 : ∀ w2 : World, w2.heap = w.heap → (Builtin.firstCells ie.size sv.len (.slice none sv.len 0)).run P w2 = .ok ([] : List Value).toArray w2 := fun w2 _ => by
              rw [k0]; simp [run_firstCells_none]
            obtain ⟨u, w', R', hr, hv, hp⟩ := fresh none 0 (H.set sv.id (.cells o.xs false true o.anc)) (sv.id :: o.anc) [] [] (by omega) (by simp) hspend.sim .nil (by rw [k0]; simp) hanc f0
            rw [hdrop]
            rw [k0] at hr
            exact ⟨_, _, _, rfl, u, w', R', by rw [k0] at *; exact hr, hv, hspend.trans hp hs⟩
end
end Go.Sp
