/-
  No statement is proved here: what the functions of the law answer, told as plain functions, and that the law's answer is always true.
  No condition.
-/
import Derived.Test.YtpljgmackfjkdaaGreatDoorTDumpBytesg
set_option maxRecDepth 3000000
set_option maxHeartbeats 100000000
namespace Go.Proofs.GR.T
open Go Go.Proofs Go.Proofs.GR
theorem key8_in (n : Int) : ∀ x ∈ Sp.key8 n, 0 ≤ x ∧ x < 256 := fun x hx => by
  unfold Sp.key8 at hx
  simp only [List.mem_cons, List.not_mem_nil, or_false] at hx
  rcases hx with rfl | rfl | rfl | rfl | rfl | rfl | rfl | rfl <;> exact wrap8_byte _
theorem esc_in : ∀ l : List Int, (∀ x ∈ l, 0 ≤ x ∧ x < 256) → ∀ x ∈ Sp.esc l, 0 ≤ x ∧ x < 256
  | [], _, x, hx => by rw [Sp.esc] at hx; cases hx
  | y :: l, h, x, hx => by
    rw [esc_cons] at hx
    rcases List.mem_append.1 hx with q | q
    · have hy := h y List.mem_cons_self
      cases hz : y == 0 with
      | true =>
        rw [hz] at q
        rcases List.mem_cons.1 q with rfl | q
        · exact hy
        · rw [List.mem_singleton] at q; omega
      | false =>
        rw [hz] at q
        rw [cond_false, List.mem_singleton] at q
        rw [q]; exact hy
    · exact esc_in l (fun z hz => h z (List.mem_cons_of_mem _ hz)) x q
theorem kv1_in (v : V3) : ∀ x ∈ Sp.kv1 v, 0 ≤ x ∧ x < 256 := fun x hx => by
  have hs : ∀ x ∈ Sp.esc (strBytes v.2.2) ++ [0, 1], 0 ≤ x ∧ x < 256 := fun x hx => by
    rcases List.mem_append.1 hx with q | q
    · exact esc_in _ (fun z hz => by
        rw [strBytes_byteI] at hz
        obtain ⟨u, _, rfl⟩ := List.mem_map.1 hz
        unfold byteI
        have := u.toNat_lt
        omega) x q
    · simp only [List.mem_cons, List.not_mem_nil, or_false] at q; omega
  unfold Sp.kv1 at hx
  rcases List.mem_cons.1 hx with rfl | hx
  · exact wrap8_byte _
  · cases h1 : v.1 == 1 with
    | true => rw [h1, cond_true, List.mem_singleton] at hx; rw [hx]; exact wrap8_byte _
    | false =>
      rw [h1, cond_false] at hx
      cases h2 : v.1 == 2 with
      | true => rw [h2, cond_true] at hx; exact key8_in _ x hx
      | false =>
        rw [h2, cond_false] at hx
        cases h3 : (bif v.1 == 3 then true else v.1 == 4) with
        | true => rw [h3, cond_true] at hx; exact hs x hx
        | false => rw [h3, cond_false] at hx; cases hx
theorem key_in : ∀ (a : List V3), ∀ x ∈ Sp.key a, 0 ≤ x ∧ x < 256
  | [], x, hx => by rw [Sp.key] at hx; cases hx
  | v :: a, x, hx => by
    rw [Sp.key] at hx
    rcases List.mem_append.1 hx with q | q
    · exact kv1_in v x q
    · exact key_in a x q
theorem bytesStr_list (A : List Int) : (bytesStr A).data.toList = A.map fun n => UInt8.ofNat n.toNat := rfl
theorem cmpB_rows {a b : List V3} (h : a.length = b.length) (ha : ∀ v ∈ a, Sp.vN v = true) (hb : ∀ v ∈ b, Sp.vN v = true) : Sp.cmpB (Sp.key a) (Sp.key b) = Sp.rows a b := by
  unfold Sp.cmpB
  rw [bytesStr_list, bytesStr_list]
  rcases key_dec a b h (fun v hv => vN_is (ha v hv)) (fun v hv => vN_is (hb v hv)) with ⟨rfl, q⟩ | q
  · rw [q]; exact cmpL_self _
  · exact cmpL_dec q (key_in a) (key_in b)
def Sp.lastR (pre : List VRw) : VRw := pre.getD (pre.length - 1) []
theorem lastR_take {xs : List VRw} {k : Nat} (h : k < xs.length) (h0 : 0 < k) : Sp.lastR (xs.take k) = xs[k - 1] := by
  unfold Sp.lastR
  have hk : (xs.take k).length = k := by rw [List.length_take]; omega
  rw [hk, List.getD, List.getElem?_take_of_lt (by omega), List.getElem?_eq_getElem (by omega)]
  rfl
def Sp.rowG (cs : List VCo) (key : Int) (pre : List VRw) (row : VRw) : Bool := bif !Sp.rowOK row then false else bif (Sp.rowT cs row).1 != 0 then false else bif decide (0 < pre.length) then !decide (Sp.rows ((Sp.lastR pre).take key.toNat) (row.take key.toNat) ≥ 0) else true
def Sp.rowsF (cs : List VCo) (key : Int) (rows : List VRw) : Bool := bif Sp.allP (Sp.rowG cs key) [] rows then decide ((rows.length : Int) ≤ 400) else false
theorem rowG_is {cs : List VCo} {key : Int} {pre : List VRw} {row : VRw} (h : Sp.rowG cs key pre row = true) : Sp.rowOK row = true ∧ row.length = cs.length := by
  unfold Sp.rowG at h
  cases h1 : Sp.rowOK row with
  | false => rw [h1] at h; cases h
  | true =>
    rw [h1, Bool.not_true, cond_false] at h
    refine ⟨rfl, ?_⟩
    cases h2 : (Sp.rowT cs row).1 != 0 with
    | true => rw [h2] at h; cases h
    | false =>
      unfold Sp.rowT at h2
      by_cases he : row.length = cs.length
      · exact he
      · rw [show ((row.length : Int) != (cs.length : Int)) = true by simp; omega] at h2
        cases h2
theorem allP_mem {α : Type} {p : List α → α → Bool} : ∀ (xs pre : List α), Sp.allP p pre xs = true → ∀ x ∈ xs, ∃ q, p q x = true
  | [], _, _, x, hx => by cases hx
  | y :: r, pre, h, x, hx => by
    rw [Sp.allP] at h
    cases hy : p pre y with
    | false => rw [hy] at h; cases h
    | true =>
      rw [hy, Bool.not_true, cond_false] at h
      rcases List.mem_cons.1 hx with rfl | hx
      · exact ⟨pre, hy⟩
      · exact allP_mem r _ h x hx
def Sp.nN (v : V3) : Bool := yes2 (decide (-9223372036854775808 ≤ v.2.1)) (decide (v.2.1 < 9223372036854775808))
theorem vN_mk {row : VRw} (h : Sp.rowOK row = true) (hn : Sp.allW Sp.nN row = true) : ∀ v ∈ row, Sp.vN v = true := fun v hv => by
  have h1 := (rowOK_iff.1 h).2 v hv
  have h2 := allW_mem.1 hn v hv
  exact yes2Q h1 h2
theorem vN_take {row : VRw} (h : ∀ v ∈ row, Sp.vN v = true) (k : Nat) : ∀ v ∈ row.take k, Sp.vN v = true := fun v hv => h v (List.mem_of_mem_take hv)
theorem f1391_pre_mk {x0 : ByteArray} {x1 : List VCo} {key : Int} {x3 : List VIx} {row : VRw} (hr : Sp.rowOK row = true) (hn : Sp.allW Sp.nN row = true) (hk : Sp.inK row.length key = true) : Sp.f1391_pre x0 x1 key x3 row = true := by
  unfold Sp.f1391_pre
  have e : (decide ((0 : Int) ≤ key) && decide (key ≤ (row.length : Int))) = true := hk
  have hl := (rowOK_iff.1 hr).1
  rw [take0, e, kbP_mk (by rw [List.length_take]; omega) (vN_take (vN_mk hr hn) _)]
  rfl
noncomputable def f1378_L0 (n m0 : Nat) (y0 y1 : List (List (Int × Int × ByteArray))) (y2 y3 : Int) (y4 : ByteArray) (y5 : List (ByteArray × Int × Bool)) (y6 : Int) (y7 : List (ByteArray × List Int)) : Option Res := loopAt Γ (orc [e132, e1384, e1391, e1390]) n (79 : Nat) (0 : Nat) [] [Pth.r, Pth.l, Pth.r, Pth.b] m0 (St.mk (Zn :: ZS (Zi.pair (Zi.pair Ty.str)).slice.slice y0 :: Slot.val (Val.one (Cell.ptr (0 : Nat) (0 : Nat))) :: ZN 6 (ZS (Zi.pair (Zi.pair Ty.str)).slice.slice y1 :: ZS Zi y2 :: ZS Zi y3 :: ZN 35 [])) [AObj.box (79 : Nat) [Cell.dat Ty.str y4, Cell.dat (Ty.str.pair (Zi.pair Ty.bool)).slice y5, Cell.dat Zi y6, Cell.dat (Ty.str.pair Zi.slice).slice y7]])
theorem f1378_L0_step (n m0 : Nat) (y0 y1 : List (List (Int × Int × ByteArray))) (y2 y3 : Int) (y4 : ByteArray) (y5 : List (ByteArray × Int × Bool)) (y6 : Int) (y7 : List (ByteArray × List Int)) : f1378_L0 n (m0 + 1) y0 y1 y2 y3 y4 y5 y6 y7 = bif decide (y3 < y2) then chk (decide ((0 : Int) ≤ y3) && decide (y3 < (↑y1.length : Int))) (bif !(Sp.f132 (y1.getD y3.toNat [])).1 then Zf else bif (Sp.rowT y5 (y1.getD y3.toNat [])).1 != (0 : Int) then Zf else bif decide (y3 > (0 : Int)) then chk (decide ((0 : Int) ≤ IntKind.i64.wrap (y3 - (1 : Int))) && decide (IntKind.i64.wrap (y3 - (1 : Int)) < (↑y0.length : Int))) (chk (Sp.f1391_pre y4 y5 y6 y7 (y0.getD (IntKind.i64.wrap (y3 - (1 : Int))).toNat [])) (chk (Sp.f1391_pre y4 y5 y6 y7 (y1.getD y3.toNat [])) (bif decide (Sp.cmpB (Sp.f1391 y4 y5 y6 y7 (y0.getD (IntKind.i64.wrap (y3 - (1 : Int))).toNat [])).1 (Sp.f1391 y4 y5 y6 y7 (y1.getD y3.toNat [])).1 ≥ (0 : Int)) then Zf else f1378_L0 n m0 y0 y1 y2 (IntKind.i64.wrap (y3 + (1 : Int))) y4 y5 y6 y7))) else f1378_L0 n m0 y0 y1 y2 (IntKind.i64.wrap (y3 + (1 : Int))) y4 y5 y6 y7) else ZB (decide ((↑y0.length : Int) ≤ (400 : Int))) := by kernel_rfl
theorem f1378_raw (n : Nat) (x0 : ByteArray) (x1 : List (ByteArray × Int × Bool)) (x2 : Int) (x3 : List (ByteArray × List Int)) (x4 : List (List (Int × Int × ByteArray))) : abody Γ (orc [e132, e1384, e1391, e1390]) n 79 [XV.mk true [ZC Ty.str x0, ZC (Ty.str.pair (Zi.pair Ty.bool)).slice x1, ZC Zi x2, ZC (Ty.str.pair Zi.slice).slice x3], ZX (Zi.pair (Zi.pair Ty.str)).slice.slice x4] = f1378_L0 n n x4 x4 (↑x4.length : Int) (0 : Int) x0 x1 x2 x3 := by kernel_rfl

def Sp.rfP (cs : List VCo) (key : Int) (rows : List VRw) : Bool := yes2 (Sp.inK cs.length key) (Sp.allW (Sp.allW Sp.nN) rows)
noncomputable def e1378 : Ent := { f := n1378, ins := [shTb, Sh.one (cL tRw)], outs := [Sh.one cB], upd := [], pre := fun a => Sp.rfP a.1.2.1 a.1.2.2.1 a.2, spec := fun a => Sp.rowsF a.1.2.1 a.1.2.2.1 a.2, wrt := fun _ => () }
theorem e1378_core (x0 : ByteArray) (cs : List VCo) (key : Int) (x3 : List VIx) (rows : List VRw) (ha : Sp.rfP cs key rows = true) (hl : rows.length ≤ maxLen) : ∃ n, abody Γ (orc [e132, e1384, e1391, e1390]) n n1378 (e1378.args ((x0, cs, key, x3), rows)) = some (rBo (Sp.rowsF cs key rows)) := by
  have hl : rows.length ≤ 9223372036854775807 := hl
  obtain ⟨hk, hn⟩ := yes2_true ha
  have hn := allW_mem.1 hn
  refine ⟨rows.length + 1, (f1378_raw _ x0 cs key x3 rows).trans ?_⟩
  have L0 := allP_end (p := Sp.rowG cs key) (z := some (rBo (decide ((rows.length : Int) ≤ 400)))) (F := some (rBo false)) rows (fun m k => f1378_L0 (rows.length + 1) m rows rows rows.length k x0 cs key x3) (fun m k hk => by
    show f1378_L0 _ _ _ _ _ _ _ _ _ _ = _
    rw [f1378_L0_step, nat_ge hk, cond_false]) (fun m k h hp => by
    show f1378_L0 _ _ _ _ _ _ _ _ _ _ = _
    have hkl : (rows.take k).length = k := by rw [List.length_take]; omega
    rw [f1378_L0_step, nat_lt h, cond_true, guard0, chkT, getD_nat rows k _ h, next64 h hl, f132_eq]
    unfold Sp.rowG
    rw [hkl]
    cases h1 : Sp.rowOK rows[k] with
    | false => rfl
    | true =>
    rw [Bool.not_true, cond_false, cond_false]
    cases h2 : (Sp.rowT cs rows[k]).1 != 0 with
    | true => rfl
    | false =>
    rw [cond_false, cond_false]
    by_cases h0 : 0 < k
    · have g : Sp.rowG cs key [] rows[k] = true := by unfold Sp.rowG; rw [h1, h2]; rfl
      have g1 := (rowG_is g).2
      have hm : rows[k - 1] ∈ rows.take k := List.mem_take_iff_getElem.2 ⟨k - 1, by omega, rfl⟩
      obtain ⟨q, g2⟩ := allP_mem _ _ hp _ hm
      obtain ⟨g3, g4⟩ := rowG_is g2
      have e : IntKind.i64.wrap ((k : Int) - 1) = ((k - 1 : Nat) : Int) := (wrap64 (by omega) (by omega)).trans (by omega)
      have n1 := hn _ (List.getElem_mem h)
      have n2 := hn _ (List.getElem_mem (show k - 1 < rows.length by omega))
      rw [decide_eq_true (show (k : Int) > 0 by omega), decide_eq_true h0, cond_true, cond_true, e, guard2 (show k - 1 < rows.length by omega), chkT, getD_nat rows (k - 1) _ (by omega), f1391_pre_mk g3 n2 (by rw [g4]; exact hk), chkT, f1391_pre_mk h1 n1 (by rw [g1]; exact hk), chkT, lastR_take h h0, Bool.not_not]
      show (bif decide (Sp.cmpB (Sp.key (rows[k - 1].take key.toNat)) (Sp.key (rows[k].take key.toNat)) ≥ 0) then _ else _) = _
      rw [cmpB_rows (by rw [List.length_take, List.length_take, g1, g4]) (vN_take (vN_mk g3 n2) _) (vN_take (vN_mk h1 n1) _)]
    · rw [decide_eq_false (show ¬ (k : Int) > 0 by omega), decide_eq_false h0]
      rfl) _ (Nat.lt_succ_self _)
  refine L0.trans ?_
  unfold Sp.rowsF
  cases Sp.allP (Sp.rowG cs key) [] rows <;> rfl
theorem e1378_ok : Valid PP Γ e1378 := valid_len ok (vcons e132_ok (vcons e1384_ok (vcons e1391_ok (vcons e1390_ok vnil)))) fun a ha hl => e1378_core a.1.1 a.1.2.1 a.1.2.2.1 a.1.2.2.2 a.2 ha (hl _ (List.mem_cons_of_mem _ List.mem_cons_self) _ (List.mem_cons_self)).1
theorem f79_is {i lo hi : Int} (h : (Sp.f79 i lo hi).1 = true) : lo ≤ i ∧ i ≤ hi := by
  have h : (bif decide (i ≥ lo) then (decide (i ≤ hi), ()) else (false, ())).1 = true := h
  by_cases h0 : i ≥ lo
  · rw [decide_eq_true h0, cond_true] at h
    exact ⟨h0, of_decide_eq_true h⟩
  · rw [decide_eq_false h0, cond_false] at h; cases h
theorem cat_each {ts : List VTb} (h : Sp.catOK ts = true) : ts.length ≤ 6 ∧ ∀ t ∈ ts, Sp.okT t = true := by
  unfold Sp.catOK at h
  by_cases h4 : (ts.length : Int) > 4096
  · rw [decide_eq_true h4] at h; cases h
  by_cases h6 : (ts.length : Int) > 6
  · rw [decide_eq_false h4, decide_eq_true h6] at h; cases h
  rw [decide_eq_false h4, decide_eq_false h6, cond_false, cond_false] at h
  refine ⟨by omega, fun t ht => ?_⟩
  obtain ⟨q, hq⟩ := allP_mem _ _ h t ht
  unfold Sp.catP at hq
  cases ho : Sp.okT t with
  | true => rfl
  | false => rw [ho] at hq; cases hq
theorem ixP_in {n : Nat} {p : List Int} {c : Int} (hn : n ≤ 8) (h : Sp.ixP n p c = true) : Sp.inR n c = true := by
  unfold Sp.ixP at h
  cases q : (Sp.f79 c (0 : Int) (IntKind.i64.wrap ((n : Int) - (1 : Int)))).1 with
  | false => rw [q] at h; cases h
  | true =>
    have b := f79_is q
    rw [wrap64 (by omega) (by omega)] at b
    unfold Sp.inR
    rw [decide_eq_true b.1, decide_eq_true (show c < (n : Int) by omega)]; rfl
theorem okT_is {t : VTb} (h : Sp.okT t = true) : t.2.1.length ≤ 8 ∧ Sp.inK t.2.1.length t.2.2.1 = true ∧ ∀ x ∈ t.2.2.2, x.2.length ≤ 8 ∧ ∀ c ∈ x.2, Sp.inR t.2.1.length c = true := by
  unfold Sp.okT Sp.tbOK at h
  cases q1 : Sp.isFreeS t.1 with
  | false => rw [q1] at h; cases h
  | true =>
  cases q2 : (Sp.f79 (t.2.1.length : Int) 1 8).1 with
  | false => rw [q1, q2] at h; cases h
  | true =>
  cases q3 : (Sp.f79 t.2.2.1 1 (t.2.1.length : Int)).1 with
  | false => rw [q1, q2, q3] at h; cases h
  | true =>
  cases q4 : decide ((t.2.2.2.length : Int) > 4) with
  | true => rw [q1, q2, q3, q4] at h; cases h
  | false =>
  rw [q1, q2, q3, q4] at h
  cases q5 : Sp.allP (Sp.coP t.2.2.1) [] t.2.1 with
  | false => rw [q5] at h; cases h
  | true =>
  rw [q5] at h
  have h : Sp.allP (Sp.inP t.2.1.length) [] t.2.2.2 = true := h
  have b2 := f79_is q2
  have b3 := f79_is q3
  refine ⟨by omega, ?_, fun x hx => ?_⟩
  · unfold Sp.inK
    rw [decide_eq_true (show (0 : Int) ≤ t.2.2.1 by omega), decide_eq_true b3.2]; rfl
  · obtain ⟨q, hq⟩ := allP_mem _ _ h x hx
    unfold Sp.inP at hq
    cases hi : Sp.ixOK t.2.1.length x.1 x.2 with
    | false => rw [hi] at hq; cases hq
    | true =>
      unfold Sp.ixOK at hi
      cases r1 : Sp.isFreeS x.1 with
      | false => rw [r1] at hi; cases hi
      | true =>
      cases r2 : ((x.2.length : Int) == 0) with
      | true => rw [r1, r2] at hi; cases hi
      | false =>
      by_cases r3 : (x.2.length : Int) > (t.2.1.length : Int)
      · rw [r1, r2, decide_eq_true r3] at hi; cases hi
      rw [r1, r2, decide_eq_false r3] at hi
      have hi : Sp.allP (Sp.ixP t.2.1.length) [] x.2 = true := hi
      refine ⟨by omega, fun c hc => ?_⟩
      obtain ⟨p, hp⟩ := allP_mem _ _ hi c hc
      exact ixP_in (by omega) hp
def Sp.datG (t : VTb) (d : VDt) : Bool := bif !(d.1.toList == t.1.toList) then false else bif decide ((d.2.length : Int) > 400) then false else Sp.allP (Sp.rowG t.2.1 t.2.2.1) [] d.2
def Sp.all2 {α β : Type} (p : α → β → Bool) : List α → List β → Bool
  | a :: r, b :: s => bif p a b then Sp.all2 p r s else false
  | [], _ => true
  | _ :: _, [] => true
def Sp.dataOK (ts : List VTb) (ds : List VDt) : Bool := bif decide ((ts.length : Int) > 4096) then false else bif decide ((ds.length : Int) > 4096) then false else bif !Sp.catOK ts then false else bif (ds.length : Int) != (ts.length : Int) then false else Sp.all2 Sp.datG ts ds
noncomputable def f96_L0 (n m0 : Nat) (y0 : List (ByteArray × List (ByteArray × Int × Bool) × Int × List (ByteArray × List Int))) (y1 : List (ByteArray × List (List (Int × Int × ByteArray)))) (y2 : Int) : Option Res := loopAt Γ (orc [e140, e92, e141, e88]) n (35 : Nat) (0 : Nat) [] [Pth.r, Pth.r, Pth.r, Pth.l, Pth.r, Pth.b] m0 (St.mk (ZS (Ty.str.pair ((Ty.str.pair (Zi.pair Ty.bool)).slice.pair (Zi.pair (Ty.str.pair Zi.slice).slice))).slice y0 :: ZS (Ty.str.pair (Zi.pair (Zi.pair Ty.str)).slice.slice).slice y1 :: ZN 3 (ZS Zi y2 :: ZN 108 [])) [])
noncomputable def f96_L1 (n m0 m1 : Nat) (y0 : List (ByteArray × List (ByteArray × Int × Bool) × Int × List (ByteArray × List Int))) (y1 : List (ByteArray × List (List (Int × Int × ByteArray)))) (y2 y3 : Int) : Option Res := loopAt Γ (orc [e140, e92, e141, e88]) n (35 : Nat) (0 : Nat) [] [Pth.r, Pth.r, Pth.r, Pth.l, Pth.r, Pth.b, Pth.p m0, Pth.r, Pth.l, Pth.b, Pth.r, Pth.r, Pth.b] m1 (St.mk (ZS (Ty.str.pair ((Ty.str.pair (Zi.pair Ty.bool)).slice.pair (Zi.pair (Ty.str.pair Zi.slice).slice))).slice y0 :: ZS (Ty.str.pair (Zi.pair (Zi.pair Ty.str)).slice.slice).slice y1 :: ZN 3 (ZS Zi y2 :: ZS Zi y3 :: ZN 107 [])) [])
theorem f96_L0_step (n m0 : Nat) (y0 : List (ByteArray × List (ByteArray × Int × Bool) × Int × List (ByteArray × List Int))) (y1 : List (ByteArray × List (List (Int × Int × ByteArray)))) (y2 : Int) : f96_L0 n (m0 + 1) y0 y1 y2 = bif decide (y2 < (↑y1.length : Int)) then chk (decide ((0 : Int) ≤ y2) && decide (y2 < (↑y1.length : Int))) (chk (decide ((0 : Int) ≤ y2) && decide (y2 < (↑y0.length : Int))) (bif !(y1.getD y2.toNat (ByteArray.mk #[], [])).1.toList == (y0.getD y2.toNat (ByteArray.mk #[], [], (0 : Int), [])).1.toList then Zf else chk (decide ((0 : Int) ≤ y2) && decide (y2 < (↑y1.length : Int))) (bif decide ((↑(y1.getD y2.toNat (ByteArray.mk #[], [])).2.length : Int) > (400 : Int)) then Zf else f96_L1 n m0 n y0 y1 y2 (0 : Int)))) else Zt := by kernel_rfl
theorem f96_L1_step (n m0 m1 : Nat) (y0 : List (ByteArray × List (ByteArray × Int × Bool) × Int × List (ByteArray × List Int))) (y1 : List (ByteArray × List (List (Int × Int × ByteArray)))) (y2 y3 : Int) : f96_L1 n m0 (m1 + 1) y0 y1 y2 y3 = chk (decide ((0 : Int) ≤ y2) && decide (y2 < (↑y1.length : Int))) (bif decide (y3 < (↑(y1.getD y2.toNat (ByteArray.mk #[], [])).2.length : Int)) then chk (decide ((0 : Int) ≤ y2) && decide (y2 < (↑y1.length : Int))) (chk (decide ((0 : Int) ≤ y3) && decide (y3 < (↑(y1.getD y2.toNat (ByteArray.mk #[], [])).2.length : Int))) (bif !Sp.rowOK ((y1.getD y2.toNat (ByteArray.mk #[], [])).2.getD y3.toNat []) then Zf else chk (decide ((0 : Int) ≤ y2) && decide (y2 < (↑y0.length : Int))) (bif (Sp.rowT (y0.getD y2.toNat (ByteArray.mk #[], [], (0 : Int), [])).2.1 ((y1.getD y2.toNat (ByteArray.mk #[], [])).2.getD y3.toNat [])).1 != (0 : Int) then Zf else bif decide (y3 > (0 : Int)) then chk (decide ((0 : Int) ≤ y2) && decide (y2 < (↑y1.length : Int))) (chk (decide ((0 : Int) ≤ IntKind.i64.wrap (y3 - (1 : Int))) && decide (IntKind.i64.wrap (y3 - (1 : Int)) < (↑(y1.getD y2.toNat (ByteArray.mk #[], [])).2.length : Int))) (chk (decide ((0 : Int) ≤ y2) && decide (y2 < (↑y0.length : Int))) (chk (decide ((0 : Int) ≤ (y0.getD y2.toNat (ByteArray.mk #[], [], (0 : Int), [])).2.2.1) && decide ((y0.getD y2.toNat (ByteArray.mk #[], [], (0 : Int), [])).2.2.1 ≤ (↑((y1.getD y2.toNat (ByteArray.mk #[], [])).2.getD (IntKind.i64.wrap (y3 - (1 : Int))).toNat []).length : Int))) (chk (decide ((0 : Int) ≤ y2) && decide (y2 < (↑y0.length : Int))) (chk (decide ((0 : Int) ≤ (y0.getD y2.toNat (ByteArray.mk #[], [], (0 : Int), [])).2.2.1) && decide ((y0.getD y2.toNat (ByteArray.mk #[], [], (0 : Int), [])).2.2.1 ≤ (↑((y1.getD y2.toNat (ByteArray.mk #[], [])).2.getD y3.toNat []).length : Int))) (bif decide (Sp.rows (List.take ((y0.getD y2.toNat (ByteArray.mk #[], [], (0 : Int), [])).2.2.1.toNat - (0 : Nat)) (List.drop (0 : Nat) ((y1.getD y2.toNat (ByteArray.mk #[], [])).2.getD (IntKind.i64.wrap (y3 - (1 : Int))).toNat []))) (List.take ((y0.getD y2.toNat (ByteArray.mk #[], [], (0 : Int), [])).2.2.1.toNat - (0 : Nat)) (List.drop (0 : Nat) ((y1.getD y2.toNat (ByteArray.mk #[], [])).2.getD y3.toNat []))) ≥ (0 : Int)) then Zf else f96_L1 n m0 m1 y0 y1 y2 (IntKind.i64.wrap (y3 + (1 : Int))))))))) else f96_L1 n m0 m1 y0 y1 y2 (IntKind.i64.wrap (y3 + (1 : Int)))))) else f96_L0 n m0 y0 y1 (IntKind.i64.wrap (y2 + (1 : Int)))) := by kernel_rfl
theorem f96_raw (n : Nat) (x0 : List (ByteArray × List (ByteArray × Int × Bool) × Int × List (ByteArray × List Int))) (x1 : List (ByteArray × List (List (Int × Int × ByteArray)))) : abody Γ (orc [e140, e92, e141, e88]) n 35 [ZX (Ty.str.pair ((Ty.str.pair (Zi.pair Ty.bool)).slice.pair (Zi.pair (Ty.str.pair Zi.slice).slice))).slice x0, ZX (Ty.str.pair (Zi.pair (Zi.pair Ty.str)).slice.slice).slice x1] = bif decide ((↑x0.length : Int) > (4096 : Int)) then Zf else bif decide ((↑x1.length : Int) > (4096 : Int)) then Zf else bif !Sp.catOK x0 then Zf else bif (↑x1.length : Int) != (↑x0.length : Int) then Zf else f96_L0 n n x0 x1 (0 : Int) := by kernel_rfl

theorem f96_in (n m : Nat) (ts : List VTb) (ds : List VDt) (k : Nat) (h : k < ds.length) (h2 : k < ts.length) (hk : Sp.inK ts[k].2.1.length ts[k].2.2.1 = true) (hr : ds[k].2.length ≤ 400) (hn : 401 ≤ n) (hl : ds.length ≤ 4096) :
    f96_L1 n m n ts ds k 0 = bif Sp.allP (Sp.rowG ts[k].2.1 ts[k].2.2.1) [] ds[k].2 then f96_L0 n m ts ds ((k + 1 : Nat) : Int) else some (rBo false) := by
  refine allP_end (p := Sp.rowG ts[k].2.1 ts[k].2.2.1) (z := f96_L0 n m ts ds ((k + 1 : Nat) : Int)) (F := some (rBo false)) ds[k].2 (fun m1 i => f96_L1 n m m1 ts ds k i) (fun m1 i hi => ?_) (fun m1 i hi hp => ?_) n (by omega)
  · show f96_L1 _ _ _ _ _ _ _ = _
    rw [f96_L1_step, guard2 h, chkT, getD_nat ds k _ h, nat_ge hi, cond_false, next64 h (by omega)]
  · show f96_L1 _ _ _ _ _ _ _ = _
    have hkl : (ds[k].2.take i).length = i := by rw [List.length_take]; omega
    rw [f96_L1_step, guard2 h, guard2 h2, chkT, chkT, chkT, chkT, chkT, chkT, getD_nat ds k _ h, getD_nat ts k _ h2, nat_lt hi, cond_true, guard0, chkT, getD_nat ds[k].2 i _ hi, next64 hi (by omega)]
    generalize hR : ds[k].2 = R at hi hp hkl hr ⊢
    generalize ts[k] = t at hk hp ⊢
    unfold Sp.rowG
    rw [hkl]
    cases h1 : Sp.rowOK R[i] with
    | false => rfl
    | true =>
    rw [Bool.not_true, cond_false, cond_false]
    cases h3 : (Sp.rowT t.2.1 R[i]).1 != 0 with
    | true => rfl
    | false =>
    rw [cond_false, cond_false]
    by_cases h0 : 0 < i
    · have g : Sp.rowG t.2.1 t.2.2.1 [] R[i] = true := by unfold Sp.rowG; rw [h1, h3]; rfl
      have g1 := (rowG_is g).2
      have hm : R[i - 1] ∈ R.take i := List.mem_take_iff_getElem.2 ⟨i - 1, by omega, rfl⟩
      obtain ⟨q, g2⟩ := allP_mem _ _ hp _ hm
      obtain ⟨g3, g4⟩ := rowG_is g2
      have e : IntKind.i64.wrap ((i : Int) - 1) = ((i - 1 : Nat) : Int) := (wrap64 (by omega) (by omega)).trans (by omega)
      have c1 : (decide ((0 : Int) ≤ t.2.2.1) && decide (t.2.2.1 ≤ (R[i - 1].length : Int))) = true := by rw [g4]; exact hk
      have c2 : (decide ((0 : Int) ≤ t.2.2.1) && decide (t.2.2.1 ≤ (R[i].length : Int))) = true := by rw [g1]; exact hk
      rw [decide_eq_true (show (i : Int) > 0 by omega), decide_eq_true h0, cond_true, cond_true, e, guard2 (show i - 1 < R.length by omega), chkT, getD_nat R (i - 1) _ (by omega), c1, chkT, c2, chkT, lastR_take hi h0, Bool.not_not, take0, take0]
    · rw [decide_eq_false (show ¬ (i : Int) > 0 by omega), decide_eq_false h0]
      rfl
theorem f96_loop (n : Nat) (hn : 401 ≤ n) (ts : List VTb) (ds : List VDt) (he : ds.length = ts.length) (hl : ds.length ≤ 4096) (hc : ∀ t ∈ ts, Sp.inK t.2.1.length t.2.2.1 = true) : ∀ (d k m : Nat), k + d = ds.length → d < m → f96_L0 n m ts ds k = some (rBo (Sp.all2 Sp.datG (ts.drop k) (ds.drop k))) := by
  intro d
  induction d with
  | zero =>
    intro k m hk hm
    obtain ⟨m, rfl⟩ := succ_of hm
    rw [f96_L0_step, nat_ge (show ds.length ≤ k by omega), cond_false, List.drop_of_length_le (show ts.length ≤ k by omega)]
    rfl
  | succ d ih =>
    intro k m hk hm
    obtain ⟨m, rfl⟩ := succ_of hm
    have h : k < ds.length := by omega
    have h2 : k < ts.length := by omega
    rw [f96_L0_step, nat_lt h, cond_true, guard0, chkT, guard2 h2, chkT, getD_nat ds k _ h, getD_nat ts k _ h2, List.drop_eq_getElem_cons h, List.drop_eq_getElem_cons h2, Sp.all2]
    unfold Sp.datG
    cases q1 : ds[k].1.toList == ts[k].1.toList with
    | false => rfl
    | true =>
    rw [Bool.not_true, cond_false, cond_false, chkT]
    by_cases q2 : (ds[k].2.length : Int) > 400
    · rw [decide_eq_true q2]; rfl
    rw [decide_eq_false q2, cond_false, cond_false, f96_in n m ts ds k h h2 (hc _ (List.getElem_mem h2)) (by omega) hn hl, ih (k + 1) m (by omega) (by omega)]
    cases Sp.allP (Sp.rowG ts[k].2.1 ts[k].2.2.1) [] ds[k].2 <;> rfl
noncomputable def e96 : Ent := { f := n96, ins := [Sh.one (cL tTb), Sh.one (cL tDt)], outs := [Sh.one cB], upd := [], pre := fun _ => true, spec := fun a => Sp.dataOK a.1 a.2, wrt := fun _ => () }
theorem e96_core (ts : List VTb) (ds : List VDt) : ∃ n, abody Γ (orc [e140, e92, e141, e88]) n n96 (e96.args (ts, ds)) = some (rBo (Sp.dataOK ts ds)) := by
  refine ⟨ds.length + 402, (f96_raw _ ts ds).trans ?_⟩
  unfold Sp.dataOK
  cases decide ((ts.length : Int) > 4096) with
  | true => rfl
  | false =>
  by_cases h4 : (ds.length : Int) > 4096
  · rw [decide_eq_true h4]; rfl
  rw [decide_eq_false h4, cond_false, cond_false, cond_false, cond_false]
  cases hc : Sp.catOK ts with
  | false => rfl
  | true =>
  by_cases he : ds.length = ts.length
  · rw [show ((ds.length : Int) != (ts.length : Int)) = false by simp [he], Bool.not_true, cond_false, cond_false, cond_false, cond_false]
    exact f96_loop _ (by omega) ts ds he (by omega) (fun t ht => (okT_is ((cat_each hc).2 t ht)).2.1) ds.length 0 _ (Nat.zero_add _) (by omega)
  · rw [show ((ds.length : Int) != (ts.length : Int)) = true by simp; omega, Bool.not_true, cond_false, cond_false, cond_true, cond_true]
theorem e96_ok : Valid PP Γ e96 := valid_of ok (vcons e140_ok (vcons e92_ok (vcons e141_ok (vcons e88_ok vnil)))) fun a _ => e96_core a.1 a.2
end Go.Proofs.GR.T

