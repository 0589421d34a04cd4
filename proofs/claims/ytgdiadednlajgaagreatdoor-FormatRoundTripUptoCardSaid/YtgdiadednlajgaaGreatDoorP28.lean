import Derived.Test.YtgdiadednlajgaaGreatDoorP11
import Derived.Test.YtgdiadednlajgaaGreatDoorP14
import Derived.Test.YtgdiadednlajgaaGreatDoorP23
import Derived.Test.YtgdiadednlajgaaGreatDoorP27
import Derived.Test.YtgdiadednlajgaaGreatDoorP19
import Derived.Test.YtgdiadednlajgaaGreatDoorP3
namespace Go.Proofs.YtgdiadednlajgaaGreatDoor
open Go.RowKit
set_option linter.unusedVariables false
set_option linter.unusedSimpArgs false
theorem Wd.tail {M : List Nat} {W w : World} {x : Atom} {O : List Atom} (h : Wd M W (x :: O) w) : Wd M W O w :=
  ⟨h.k, fun i y hy => h.own (i + 1) y (by simpa using hy), fun i y b hy hf hl => h.new (i + 1) y b (by simpa using hy) hf hl, fun i j y z b hy hz hf hg hw => by
    have := h.nd (i + 1) (j + 1) y z b (by simpa using hy) (by simpa using hz) hf hg hw
    omega⟩
section
variable {P : Program} {ops : Array Oper} {C : World → Prop} {N : Nat} {E : Env} {o : Oper} {d : Nat}
theorem o_hi {x y : Operand} {t t' : TypeId} {c : UInt8} (ho : o.op = .binOp .shr t x y t') (hd : o.dst = some d) (hN : d < N) (hw : wantE ops E o = some true) (hx : ev E x = some (.int .u8 (c.toNat : Int))) (hy : ev E y = some (.int .u64 4)) : oE P ops C N E ((d, .int .u8 ((c.toNat / 16 : Nat) : Int)) :: E) o :=
  o_bin ho hd hN hw hx hy fun w => by
    rw [binOp_shr, shift_shr_u8 (h₀ := by decide) (h₁ := by decide)]
    have : (c.toNat : Int) / 2 ^ (4 : Int).toNat = ((c.toNat / 16 : Nat) : Int) := by
      rw [show (2 : Int) ^ (4 : Int).toNat = 16 by decide]
      omega
    rw [this]
    rfl
theorem bits_lo (c : UInt8) : bits .and .u8 (c.toNat : Int) 15 = ((c.toNat % 16 : Nat) : Int) := by
  have h : ∀ n : Fin 256, bits .and .u8 ((n : Nat) : Int) 15 = (((n : Nat) % 16 : Nat) : Int) := by decide +kernel
  exact h ⟨c.toNat, c.toNat_lt⟩
theorem o_lo {x y : Operand} {t t' : TypeId} {c : UInt8} (ho : o.op = .binOp .and t x y t') (hd : o.dst = some d) (hN : d < N) (hw : wantE ops E o = some true) (hx : ev E x = some (.int .u8 (c.toNat : Int))) (hy : ev E y = some (.int .u8 15)) : oE P ops C N E ((d, .int .u8 ((c.toNat % 16 : Nat) : Int)) :: E) o :=
  o_bin ho hd hN hw hx hy fun w => by rw [binOp_and, intBits_and, bits_lo]; rfl
theorem o_inc8 {x y : Operand} {t t' : TypeId} {m : Nat} (hm : m < 255) (ho : o.op = .binOp .add t x y t') (hd : o.dst = some d) (hN : d < N) (hw : wantE ops E o = some true) (hx : ev E x = some (.int .u8 (m : Int))) (hy : ev E y = some (.int .u8 1)) : oE P ops C N E ((d, .int .u8 ((m + 1 : Nat) : Int)) :: E) o :=
  o_add ho hd hN hw hx hy (by
    have h : ∀ n : Fin 255, IntKind.u8.wrap (((n : Nat) : Int) + 1) = (((n : Nat) + 1 : Nat) : Int) := by decide +kernel
    exact h ⟨m, hm⟩)
end
theorem dig_cut {m : Nat} (h : m < 16) : (⟨#[48, 49, 50, 51, 52, 53, 54, 55, 56, 57, 97, 98, 99, 100, 101, 102]⟩ : ByteArray).extract m (m + 1) = ⟨#[hx m]⟩ := by
  have h' : ∀ n : Fin 16, (⟨#[48, 49, 50, 51, 52, 53, 54, 55, 56, 57, 97, 98, 99, 100, 101, 102]⟩ : ByteArray).extract n (n + 1) = ⟨#[hx n]⟩ := by decide +kernel
  exact h' ⟨m, h⟩
theorem ba_app (a b : List UInt8) : (⟨a.toArray⟩ : ByteArray) ++ ⟨b.toArray⟩ = ⟨(a ++ b).toArray⟩ := by
  refine bytes_ext ?_
  simp
section
variable {P : Program} {ops : Array Oper} {N : Nat} {E : Env} {o : Oper} {M : List Nat} {W : World} {O : List Atom}
theorem run_slice2 {t e : TypeId} {bytes : Nat} (hT : SlT P t e 1 bytes) (a b : ByteArray) (w : World) :
    (Instr.buildSlice t 2 #[(0, .string a), (1, .string b)]).run P w = .ok (.slice (some ⟨w.heap.size, 0, none⟩) 2 2) (w.alloc (.cells [Value.string a, .string b].toArray e)) := by
  obtain ⟨i, z, hi, hz, hsz, hby, hzs⟩ := hT.info
  refine run_buildSlice w t e 2 _ [Value.string a, .string b].toArray i z hT.und hi hz (by rw [hsz]; omega) (by rw [hsz]; omega) ?_
  rw [hsz]
  have hZ : ∀ Z : Array Value, Z.size = 2 → Instr.fill (fun i => some (i * 1, 1)) Z [(0, Value.string a), (1, Value.string b)] = some #[.string a, .string b] := by
    rintro ⟨l⟩ h
    match l, h with
    | [z0, z1], _ => rfl
  exact hZ _ (by simp)
theorem u_slice2 {t e : TypeId} {bytes : Nat} {x y : Operand} {a b : ByteArray} [hT : Sl P t e 1 bytes] (ho : o.op = .buildSlice t 2 #[(0, x), (1, y)]) (hw : wantE ops E o = some true) (hx : ev E x = some (.string a)) (hy : ev E y = some (.string b)) :
    uE P ops N M W E O o Nat (fun b => .slice (some ⟨b, 0, none⟩) 2 2) (fun g => .blk g (.cells [Value.string a, .string b].toArray e (0, 0)) :: O) (fun _ => True) :=
  u_slice (xs := [(0, x), (1, y)]) (vs := [(0, .string a), (1, .string b)]) ho hw (by simp [evp, hx, hy]) (fun w => run_slice2 hT.h a b w)
end
set_option maxRecDepth 100000 in
set_option maxHeartbeats 4000000 in
theorem add_wd {M : List Nat} {W w : World} {O : List Atom} {g c : Nat} {A : Option Addr} {ws : List (List UInt8)} (u : Bool) (s : List UInt8) (hn : ws.length ≤ 1048576) (hw : Wd M W (.blk g (.cells [.slice A ws.length c].toArray 50 (0, 0)) :: .row A ws.length c 9 1 (sv ws) :: O) w) :
    Calls Tryz.prog 65 ([Value.bool u, .string ⟨s.toArray⟩].toArray ++ #[.pointer (some ⟨g, 0, none⟩)]) w (CallEnd (fun _ : Option Addr × Nat => .tuple #[]) (fun _ => True) M W (fun y => .blk g (.cells [.slice y.1 (ws ++ ifW u s).length y.2].toArray 50 (0, 0)) :: .row y.1 (ws ++ ifW u s).length y.2 9 1 (sv (ws ++ ifW u s)) :: O)) := by
  rw [show ([Value.bool u, .string ⟨s.toArray⟩].toArray ++ #[.pointer (some ⟨g, 0, none⟩)] : Array Value) = #[.bool u, .string ⟨s.toArray⟩, .pointer (some ⟨g, 0, none⟩)] by simp]
  cases u with
  | false =>
    go_enter Tryz.func65, Tryz.ntmps65
    refine s_go (M := M) (W := W) (N := 10) (E := [(0, .bool false), (1, .string ⟨s.toArray⟩), (2, .pointer (some ⟨g, 0, none⟩))]) (O := .blk g (.cells [.slice A ws.length c].toArray 50 (0, 0)) :: .row A ws.length c 9 1 (sv ws) :: O) ?_ (Ag.cons (Ag.cons (Ag.cons (Ag.nil rfl rfl) rfl) rfl) rfl) hw
    repeat (first | refine l_op (o_move rfl rfl (by decide) rfl rfl) ?_ | refine l_nil ?_ | refine s_seq ?_ | refine s_region ?_ | refine s_skip ?_ | refine s_cond_false rfl ?_)
    refine x_body0 (by first | exact .inl rfl | exact .inr rfl) rfl (fun w hw => ⟨(A, c), rfl, trivial, ?_⟩)
    rw [show ws ++ ifW false s = ws from List.append_nil ws]
    exact hw
  | true =>
    go_enter Tryz.func65, Tryz.ntmps65
    refine s_go (M := M) (W := W) (N := 10) (E := [(0, .bool true), (1, .string ⟨s.toArray⟩), (2, .pointer (some ⟨g, 0, none⟩))]) (O := .blk g (.cells [.slice A ws.length c].toArray 50 (0, 0)) :: .row A ws.length c 9 1 (sv ws) :: O) ?_ (Ag.cons (Ag.cons (Ag.cons (Ag.nil rfl rfl) rfl) rfl) rfl) hw
    repeat (first | refine l_op (o_move rfl rfl (by decide) rfl rfl) ?_ | refine l_op (o_load rfl rfl (by decide) rfl rfl (by first | exact fun w hw => hw.cell_blkL 0 rfl rfl | exact fun w hw => hw.cell_blkL 1 rfl rfl | exact fun w hw => hw.cell_blkL 2 rfl rfl | exact fun w hw => hw.cell_blkL 3 rfl rfl | exact fun w hw => hw.cell_blkL 4 rfl rfl | exact fun w hw => hw.cell_blkL 5 rfl rfl | exact fun w hw => hw.cell_old (by assumption) (by simp) | exact fun w hw => hw.cell_range (by assumption) rfl (by simp))) ?_ | refine l_loud (u_slice1 (size := 1) (cs := [.string ⟨s.toArray⟩]) rfl rfl rfl rfl rfl (by decide)) rfl (by decide) (fun bn _ => ?_) | refine l_loud (u_append (news := [.string ⟨s.toArray⟩]) 2 rfl rfl rfl rfl rfl (fun w hw => hw.rd_blk 0 rfl rfl) (by simp [Value.oneCell']) (by omega)) rfl (by decide) (fun y _ => ?_) | refine l_loud0 (u_store 1 rfl rfl rfl rfl rfl rfl rfl) rfl (fun _ _ => ?_) | refine l_nil ?_ | refine s_seq ?_ | refine s_region ?_ | refine s_cond_true rfl ?_)
    refine x_body0 (by first | exact .inl rfl | exact .inr rfl) rfl (fun w hw => ⟨y, rfl, trivial, ?_⟩)
    have h := hw.tail
    rw [show (ws ++ ifW true s).length = ws.length + 1 by simp [ifW], sv_app]
    exact h
theorem fields_kinds : Lib.fields [108, 105, 116, 101, 114, 97, 108, 32, 110, 117, 109, 98, 101, 114, 32, 100, 101, 99, 105, 109, 97, 108, 32, 98, 121, 116, 101, 115, 32, 117, 110, 116, 105, 108, 32, 99, 111, 117, 110, 116, 101, 100, 32, 115, 101, 113, 117, 101, 110, 99, 101, 32, 99, 104, 111, 105, 99, 101, 32, 114, 101, 112, 101, 97, 116, 32, 98, 108, 111, 98] = kindWs := by decide +kernel
theorem fields_wd {M : List Nat} {W w : World} {O : List Atom} (hg : GV W) (hw : Wd M W O w) (hgw : GV w) :
    Calls Tryz.prog 64 #[.string ⟨#[108, 105, 116, 101, 114, 97, 108, 32, 110, 117, 109, 98, 101, 114, 32, 100, 101, 99, 105, 109, 97, 108, 32, 98, 121, 116, 101, 115, 32, 117, 110, 116, 105, 108, 32, 99, 111, 117, 110, 116, 101, 100, 32, 115, 101, 113, 117, 101, 110, 99, 101, 32, 99, 104, 111, 105, 99, 101, 32, 114, 101, 112, 101, 97, 116, 32, 98, 108, 111, 98]⟩] w (CallEnd (fun b : Nat => .slice (some ⟨b, 0, none⟩) 10 10) (fun _ => True) M W (fun b => .rd (some ⟨b, 0, none⟩) 10 1 (sv kindWs) :: O)) := by
  refine (Tryz.strings_Fields _ w (by decide) (by
    intro j b hb
    have h : ∀ x ∈ (⟨#[108, 105, 116, 101, 114, 97, 108, 32, 110, 117, 109, 98, 101, 114, 32, 100, 101, 99, 105, 109, 97, 108, 32, 98, 121, 116, 101, 115, 32, 117, 110, 116, 105, 108, 32, 99, 111, 117, 110, 116, 101, 100, 32, 115, 101, 113, 117, 101, 110, 99, 101, 32, 99, 104, 111, 105, 99, 101, 32, 114, 101, 112, 101, 97, 116, 32, 98, 108, 111, 98]⟩ : ByteArray).data.toList, x.toNat < 128 := by decide +kernel
    exact h b (List.mem_of_getElem? hb)) hgw.sp).mono ?_
  rintro e w' ⟨he, hw'⟩
  have hk : Lib.fields (⟨#[108, 105, 116, 101, 114, 97, 108, 32, 110, 117, 109, 98, 101, 114, 32, 100, 101, 99, 105, 109, 97, 108, 32, 98, 121, 116, 101, 115, 32, 117, 110, 116, 105, 108, 32, 99, 111, 117, 110, 116, 101, 100, 32, 115, 101, 113, 117, 101, 110, 99, 101, 32, 99, 104, 111, 105, 99, 101, 32, 114, 101, 112, 101, 97, 116, 32, 98, 108, 111, 98]⟩ : ByteArray).data.toList = kindWs := fields_kinds
  rw [hk] at he hw'
  subst he hw'
  refine ⟨w.heap.size, rfl, trivial, hw.push ((Below.refl _ _).alloc (Nat.le_refl _) _) ⟨rfl, fun _ => ⟨w.heap.size, 0, rfl, by simp, fun j u hu => ?_⟩⟩ (fun b' hb' => by cases hb'; exact Nat.le_refl _)⟩
  rw [Nat.zero_add]
  exact (cell_of_row _ w.heap.size j _ _ (0, 0) (heap_alloc_new _ _)).trans (by rw [List.getElem?_toArray]; exact hu)
end Go.Proofs.YtgdiadednlajgaaGreatDoor
namespace Go.Proofs.YtgdiadednlajgaaGreatDoor
open Go.RowKit
set_option linter.unusedVariables false
set_option linter.unusedSimpArgs false
theorem x_blk_row {Q : Exit → Act → World → Prop} {N : Nat} {M : List Nat} {W : World} {E : Env} {O : List Atom} {ex : Exit} (i : Nat) {b n s : Nat} {e : TypeId} {cs : List Value} (hO : O[i]? = some (.blk b (.cells cs.toArray e (0, 0)))) (hl : cs.length = n * s) (hn : n ≤ maxLen) (h : xE Q N M W E (O.set i (.row (some ⟨b, 0, none⟩) n n e s cs)) ex) : xE Q N M W E O ex := fun a w ha hW => h a w ha (hW.blk_row hO hl hn)
theorem row_rd {w : World} {A : Option Addr} {n c s : Nat} {e : TypeId} {xs : List Value} (h : (Atom.row A n c e s xs).on w) (hs : 0 < s) : Rd w w.heap.size s A n xs ∧ n ≤ c := by
  have h' : w.ownsRow 0 e s (.slice A n c) n xs := h
  rcases h'.2 with ⟨hv, h0⟩ | ⟨g, cap, cur, hv, _, hg, h1, h2, h3, h4⟩
  · simp only [Value.slice.injEq] at hv
    exact ⟨⟨h'.1, fun hn => absurd hn (by omega)⟩, by omega⟩
  · simp only [Value.slice.injEq] at hv
    obtain ⟨rfl, _, rfl⟩ := hv
    refine ⟨⟨h'.1, fun hn => ⟨g, 0, rfl, (Array.getElem?_eq_some_iff.1 hg).1, fun j u hu => ?_⟩⟩, h1⟩
    rw [Nat.zero_add]
    refine (cell_of_row w g j cur e (0, 0) hg).trans ?_
    have hj : j < n * s := by
      rcases Nat.lt_or_ge j (n * s) with hj | hj
      · exact hj
      · rw [List.getElem?_eq_none (by rw [h'.1]; exact hj)] at hu; cases hu
    rw [← h4, List.getElem?_take, if_pos hj] at hu
    rw [← hu]
    simp
section
variable {P : Program} {ops : Array Oper} {N : Nat} {E : Env} {o : Oper} {M : List Nat} {W : World} {O : List Atom}
theorem u_load {t : TypeId} {x : Operand} {p : Addr} {v : Value} [hT : T1 P t] (ho : o.op = .load t x) (hw : wantE ops E o = some true) (hx : ev E x = some (.pointer (some p))) (hc : ∀ w, Wd M W O w → w.cell? p = some v) : uE P ops N M W E O o Unit (fun _ => v) (fun _ => O) (fun _ => True) :=
  u_val hw fun ρ w ha hW => ⟨(), w, by
    obtain ⟨ds, hu, hr, hi⟩ := hT.h
    have hagg : (isAgg t).run P w = .ok false w := by
      unfold isAgg
      rw [Sem.run_bind, run_underlying hu w]
      cases ds <;> simp_all
    simp [execOp, ho, ha.eval hx, Instr.loadAt, Instr.sureAddr, loadVar, Sem.run_bind, hagg, hc w hW, go_sem], trivial, hW⟩
end
theorem kind_word {k : Int} (h : 1 ≤ k ∧ k ≤ 10) : (sv kindWs)[(k - 1).toNat]? = some (.string ⟨(kindW k).toArray⟩) := by
  rcases (show k = 1 ∨ k = 2 ∨ k = 3 ∨ k = 4 ∨ k = 5 ∨ k = 6 ∨ k = 7 ∨ k = 8 ∨ k = 9 ∨ k = 10 by omega) with rfl | rfl | rfl | rfl | rfl | rfl | rfl | rfl | rfl | rfl <;> rfl
theorem hx_step {bs : List UInt8} {i : Nat} {c : UInt8} (h : bs[i]? = some c) : hexL (bs.take i) ++ ([hx (c.toNat / 16)] ++ [hx (c.toNat % 16)]) = hexL (bs.take (i + 1)) := by
  rw [List.take_add_one, h]
  unfold hexL
  simp [hexB]
theorem hexL_len (bs : List UInt8) : (hexL bs).length = 2 * bs.length := by
  induction bs with
  | nil => rfl
  | cons c l ih =>
    show (hexB c ++ hexL l).length = _
    rw [List.length_append, ih, List.length_cons]
    show 2 + _ = _
    omega
theorem ba_size (l : List UInt8) : (⟨l.toArray⟩ : ByteArray).size = l.length := by simp [ByteArray.size]
theorem name_len {l : List UInt8} (h : isName l = true) : l.length ≤ 32 := by
  unfold isName at h
  rw [Bool.and_eq_true, Bool.and_eq_true, decide_eq_true_eq] at h
  exact h.1.1
theorem ifW_le {ws ws' : List (List UInt8)} {u : Bool} {s : List UInt8} {m : Nat} (h : ws ++ ifW u s = ws') (hm : ws.length ≤ m) : ws'.length ≤ m + 1 := by
  rw [← h, List.length_append]
  unfold ifW
  split <;> simp <;> omega
structure NSm (n : Nat) (r : Rl) : Prop where
  stop : 0 ≤ r.stop ∧ r.stop ≤ 4294967295
  size : 0 ≤ r.size ∧ r.size ≤ 4294967295
  mn : 0 ≤ r.mn ∧ r.mn ≤ 4294967295
  mx : 0 ≤ r.mx ∧ r.mx ≤ 4294967295
  count : 0 ≤ r.count ∧ r.count < n
  elem : 0 ≤ r.elem ∧ r.elem < n
theorem nsm_of {n : Nat} {r : Rl} (h : ROk n r) (hn : 0 < n) : NSm n r := by
  have hz := zr_of h
  have hk := h.kind
  have a6 : r.kind = 2 → r.mx ≤ 4294967295 := fun h2 => by
    obtain ⟨b1, b2, _, _, b5⟩ := h.num h2
    generalize r.size = size at b1 b2 b5
    rcases (show size = 1 ∨ size = 2 ∨ size = 3 ∨ size = 4 by omega) with rfl | rfl | rfl | rfl <;> simp at b5 <;> omega
  refine ⟨?_, ?_, ?_, ?_, ?_, ?_⟩
  · by_cases hu : r.kind = 3 ∨ r.kind = 5 ∨ r.kind = 9
    · have := h.stop hu; omega
    · rw [hz.stop (by omega) (by omega) (by omega)]; omega
  · by_cases h2 : r.kind = 2
    · have := h.num h2; omega
    · by_cases h4 : r.kind = 4
      · have := h.size4 h4; omega
      · by_cases h5 : r.kind = 5
        · have := h.size5 h5; omega
        · rw [hz.size h2 h4 h5]; omega
  · by_cases h2 : r.kind = 2
    · have := h.num h2; have := a6 h2; omega
    · rw [hz.mn h2]; omega
  · by_cases h2 : r.kind = 2
    · have := h.num h2; have := a6 h2; omega
    · by_cases h3 : r.kind = 3
      · have := h.dec h3; omega
      · rw [hz.mx h2 h3]; omega
  · by_cases hu : r.kind = 6 ∨ r.kind = 10
    · exact h.count hu
    · rw [hz.count (by omega) (by omega)]; omega
  · by_cases hu : r.kind = 6 ∨ r.kind = 9
    · exact h.elem hu
    · rw [hz.elem (by omega) (by omega)]; omega
end Go.Proofs.YtgdiadednlajgaaGreatDoor
namespace Go.Proofs.YtgdiadednlajgaaGreatDoor
set_option linter.unusedVariables false
theorem LeB.antisymm {a b : List Bool} (h : LeB a b) (k : LeB b a) : a = b := list_ext_bool h.1 fun i hi => by
  cases ha : a.getD i false with
  | true => exact (h.2 i ha).symm
  | false =>
    cases hb : b.getD i false with
    | false => rfl
    | true => rw [k.2 i hb] at ha; cases ha
theorem LeB.of_false (n : Nat) {b : List Bool} (h : b.length = n) : LeB (List.replicate n false) b := ⟨by rw [List.length_replicate, h], fun i hi => by
  simp only [List.getD_eq_getElem?_getD, List.getElem?_replicate] at hi
  split at hi <;> simp at hi⟩
theorem mk_le {a b : List Bool} (h : LeB a b) {x : Int} (hx : mk a x = true) : mk b x = true := h.2 _ hx
theorem oneF_mono {F : List Rl} {a b : List Bool} {r : Rl} (h : LeB a b) (ho : oneF F a r = true) : oneF F b r = true := by
  unfold oneF at ho ⊢
  by_cases h10 : r.kind = 10
  · rw [if_pos h10] at ho ⊢
    exact mk_le h ho
  rw [if_neg h10] at ho ⊢
  by_cases h6 : r.kind = 6
  · rw [if_pos h6] at ho ⊢
    rw [Bool.and_eq_true, Bool.or_eq_true] at ho ⊢
    exact ⟨mk_le h ho.1, ho.2.imp id (mk_le h)⟩
  rw [if_neg h6] at ho ⊢
  by_cases h7 : r.kind = 7
  · rw [if_pos h7] at ho ⊢
    rw [Bool.not_eq_true', List.any_eq_false] at ho ⊢
    intro x hx hb
    refine ho x hx ?_
    rw [Bool.not_eq_true'] at hb ⊢
    cases e : mk a x with
    | false => rfl
    | true => rw [mk_le h e] at hb; cases hb
  rw [if_neg h7] at ho ⊢
  by_cases h8 : r.kind = 8
  · rw [if_pos h8] at ho ⊢
    rw [List.any_eq_true] at ho ⊢
    obtain ⟨x, hx, hb⟩ := ho
    exact ⟨x, hx, mk_le h hb⟩
  · rw [if_neg h8]
def stepB (F : List Rl) (out : List Bool) : List Bool := F.map (oneF F out)
def finR (F : List Rl) (t : Nat) : List Bool := iter (stepB F) t (List.replicate F.length false)
theorem stepB_len (F : List Rl) (out : List Bool) : (stepB F out).length = F.length := by unfold stepB; rw [List.length_map]
theorem finR_len (F : List Rl) : ∀ t, (finR F t).length = F.length
  | 0 => List.length_replicate
  | t + 1 => stepB_len F _
theorem stepB_get (F : List Rl) (out : List Bool) (i : Nat) : (stepB F out).getD i false = match F[i]? with | some r => oneF F out r | none => false := by
  unfold stepB
  rw [List.getD_eq_getElem?_getD, List.getElem?_map]
  cases F[i]? <;> rfl
theorem stepB_mono {F : List Rl} {a b : List Bool} (h : LeB a b) : LeB (stepB F a) (stepB F b) := ⟨by rw [stepB_len, stepB_len], fun i hi => by
  rw [stepB_get] at hi ⊢
  cases hr : F[i]? with
  | none => rw [hr] at hi; cases hi
  | some r => rw [hr] at hi; exact oneF_mono h hi⟩
theorem finR_up (F : List Rl) : ∀ t, LeB (finR F t) (finR F (t + 1))
  | 0 => LeB.of_false _ (finR_len F 1)
  | t + 1 => stepB_mono (finR_up F t)
theorem finR_rest (F : List Rl) : finR F (F.length + 1) = finR F F.length := by
  refine list_ext_bool (by rw [finR_len, finR_len]) fun i hi => ?_
  rw [finR_len] at hi
  exact rounds_rest (n := F.length) (s := fun t i => (finR F t).getD i false) (fun t i _ => (finR_up F t).2 i)
    (fun t ht i hi => by
      have e : finR F (t + 1) = finR F t := list_ext_bool (by rw [finR_len, finR_len]) fun j hj => ht j (by rw [finR_len] at hj; exact hj)
      show (stepB F (finR F (t + 1))).getD i false = (finR F (t + 1)).getD i false
      rw [e]
      show (finR F (t + 1)).getD i false = _
      rw [e]) i hi
theorem finR_more (F : List Rl) : ∀ k, finR F (F.length + k) = finR F F.length
  | 0 => rfl
  | k + 1 => by
    show stepB F (finR F (F.length + k)) = _
    rw [finR_more F k]
    exact finR_rest F
theorem finStep_le (F : List Rl) (out : List Bool) (k : Nat) : LeB out (finStep F out k) := LeB.set out k _ fun h => by rw [h]; rfl
theorem finRound_le (F : List Rl) (out : List Bool) : LeB out (finRound F out) := foldl_le (finStep_le F) _ _
theorem finL_len (F : List Rl) : (finL F).length = F.length := by
  have := (iter_le (finRound_le F) (List.replicate F.length false) F.length).1
  rw [List.length_replicate] at this
  exact this.symm
theorem finL_rest (F : List Rl) : finRound F (finL F) = finL F := by
  have := iter_rest (finRound_le F) (List.replicate F.length false)
  rw [List.length_replicate] at this
  exact this
theorem finL_closed (F : List Rl) : LeB (stepB F (finL F)) (finL F) := ⟨by rw [stepB_len, finL_len], fun i hi => by
  rw [stepB_get] at hi
  cases hr : F[i]? with
  | none => rw [hr] at hi; cases hi
  | some r =>
    rw [hr] at hi
    have hin : i < F.length := (List.getElem?_eq_some_iff.1 hr).1
    obtain ⟨a', h1, h2⟩ := foldl_hit (finStep_le F) (List.range F.length) (finL F) i (List.mem_range.2 hin)
    have h3 : (finStep F a' i).getD i false = true := by
      unfold finStep
      rw [getD_set_bool _ _ _ _ (by rw [← h1.1, finL_len]; exact hin), if_pos rfl, hr]
      show (_ || oneF F a' r) = true
      rw [oneF_mono h1 hi, Bool.or_true]
    have h4 := h2.2 i h3
    have h5 : (finRound F (finL F)).getD i false = true := h4
    rwa [finL_rest] at h5⟩
theorem finR_le (F : List Rl) : ∀ t, LeB (finR F t) (finL F)
  | 0 => LeB.of_false _ (finL_len F)
  | t + 1 => (stepB_mono (finR_le F t)).trans (finL_closed F)
theorem finL_le (F : List Rl) : LeB (finL F) (finR F F.length) := by
  refine iter_inv (f := finRound F) (p := fun out => LeB out (finR F F.length)) (fun a ha => foldl_inv (p := fun out => LeB out (finR F F.length)) (fun out k ho => ?_) _ _ ha) (a := List.replicate F.length false) (LeB.of_false _ (finR_len F _)) F.length
  refine ⟨by rw [← ho.1]; unfold finStep; rw [List.length_set], fun i hi => ?_⟩
  unfold finStep at hi
  by_cases hk : k < out.length
  · rw [getD_set_bool _ _ _ _ hk] at hi
    split at hi
    · next e =>
      subst e
      rw [Bool.or_eq_true] at hi
      rcases hi with hi | hi
      · exact ho.2 _ hi
      · have h1 : (stepB F (finR F F.length)).getD i false = true := by
          rw [stepB_get]
          cases hr : F[i]? with
          | none => rw [hr] at hi; cases hi
          | some r => rw [hr] at hi; exact oneF_mono ho hi
        have h2 : (finR F (F.length + 1)).getD i false = true := h1
        rwa [finR_rest] at h2
    · exact ho.2 _ hi
  · rw [List.set_eq_of_length_le (by omega)] at hi
    exact ho.2 _ hi
theorem fin_eq (F : List Rl) (k : Nat) : finR F (F.length + k) = finL F := by
  rw [finR_more]
  exact (finR_le F _).antisymm (finL_le F)
end Go.Proofs.YtgdiadednlajgaaGreatDoor
namespace Go.Proofs.YtgdiadednlajgaaGreatDoor
open Go.RowKit
set_option linter.unusedVariables false
set_option linter.unusedSimpArgs false
def cap1 (n : Int) : Int := if 1001 < n then 1001 else n
def leastN (k mn : Int) : Int := if k = 2 then cap1 mn else 0
end Go.Proofs.YtgdiadednlajgaaGreatDoor
