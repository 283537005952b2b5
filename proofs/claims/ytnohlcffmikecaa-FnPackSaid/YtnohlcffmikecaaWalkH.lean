/- Contracts: the page that has pairs. -/
import Derived.Test.YtnohlcffmikecaaWalkD
import Derived.Test.YtnohlcffmikecaaWalkG
namespace Go.Proofs.Ytnohlcffmikecaa
open Go.RowKit

/-- the words that pairs stand for -/
def expand : List Int → List Int
  | a :: x :: r => List.replicate a.toNat x ++ expand r
  | _ => []
/-- each length of a run is from 1 to 4 -/
def cntOk : List Int → Bool
  | a :: _ :: r => inR a 1 4 && cntOk r
  | _ => true
def unpackOk (ps : List Int) : Bool := decide (ps.length % 2 = 0 ∧ ps.length ≤ 8) && (cntOk ps && (pageOk (expand ps) && decide (packL (expand ps) = ps)))
def unpackL (ps : List Int) : List Int := if unpackOk ps then expand ps else []

set_option maxHeartbeats 2000000 in
theorem implPageUnpack_c (ps : List Int) (v : Value) (w : World) (hx : RI w v ps) : Calls Try.prog 22 #[v] w (MadeIB w (unpackL ps) (unpackOk ps)) := by
  obtain ⟨a, cap, rfl⟩ := hx.val
  have hl := hx.1
  by_cases hev : ps.length % 2 = 0
  · by_cases h8 : ps.length ≤ 8
    · obtain ⟨m, hm⟩ : ∃ m, ps.length = 2 * m := ⟨ps.length / 2, by omega⟩
      have hm4 : m ≤ 4 := by omega
      have hmodb : (((2 * m : Nat) : Int) % 2 != 0) = false := by simp
      have hU : unpackOk ps = (cntOk ps && (pageOk (expand ps) && decide (packL (expand ps) = ps))) := by
        rw [unpackOk, decide_eq_true ⟨hev, h8⟩, Bool.true_and]
      have HU := Lib.hid hU
      have Hm := Lib.hid hm
      have Hx := Lib.hid hx
      rw [hm] at Hx ⊢
      clear hU hm hx hev h8 hl
      go_enter Try.func22, Try.ntmps22
      go_wp2_with fail
      go_loopw [4, 5] (fun out i wr => ∃ (j : Nat) (done : List Int), i = .int .i64 (2 * (j : Int)) ∧ j ≤ m ∧ Hid (done.length ≤ 4 * j) ∧ Hid (expand ps = done ++ expand (ps.drop (2 * j))) ∧ Hid (cntOk ps = cntOk (ps.drop (2 * j))) ∧ Hid (OI wr w.heap.size out done) ∧ Hid (Below w.heap.size w wr)) (fun _ i _ => 8 - (intOf i).toNat)
      case atStart => exact ⟨0, [], rfl, Nat.zero_le _, Nat.le_refl _, rfl, rfl, OI.nil _ _, Below.refl _ _⟩
      case round =>
        obtain ⟨j, done, rfl, hj, hdl, hex, hct, ho, hb⟩ := hrel
        by_cases hlt : j < m
        · have hk1 : 2 * j < ps.length := by rw [Hm.out]; omega
          have hk2 : 2 * j + 1 < ps.length := by rw [Hm.out]; omega
          have hd := drop_two hk2
          obtain ⟨b, off, cp, e, _, hc1⟩ := (Hx.out.below hb.out).at hk1
          simp only [Value.slice.injEq] at e
          obtain ⟨rfl, h', rfl⟩ := e
          clear h'
          have hi1 : 2 * (j : Int) < 2 * (m : Int) := by omega
          have hex2 := hex.out
          have hct2 := hct.out
          rw [hd] at hex2 hct2
          have Hex := Lib.hid hex2; have Hct := Lib.hid hct2
          clear hex hct hex2 hct2 hd
          have hcx : Hid (∀ wz, Below w.heap.size w wz → wz.cell? ⟨b, off + (2 * j + 1), none⟩ = some (.int .i64 ps[2 * j + 1])) := fun wz hz => by
            obtain ⟨b2, off2, cp2, e, _, hc2⟩ := (Hx.out.below hz).at hk2
            simp only [Value.slice.injEq, Option.some.injEq, Addr.mk.injEq] at e
            obtain ⟨⟨rfl, rfl, h0'⟩, h', h''⟩ := e
            exact hc2
          generalize ps[2 * j] = y at hc1 Hex Hct
          generalize ps[2 * j + 1] = x at Hex hcx
          cases hin : inR y 1 4
          · have hF : unpackOk ps = false := by rw [HU.out, Hct.out]; simp [cntOk, hin]
            have hL : unpackL ps = [] := by simp [unpackL, hF]
            rw [hF, hL]
            have Hin := Lib.hid hin; clear hin hF hL
            go_wp2_with (go_at_call 34; refine (within_c _ _ _ _).mono ?_; rintro e w' ⟨rfl, rfl⟩; rw [Hin.out])
            go_ret2
            exact ⟨_, rfl, OI.nil _ _, hb.out⟩
          · obtain ⟨hy1, hy4⟩ := inR_true.1 hin
            have Hin := Lib.hid hin; clear hin
            obtain ⟨c, rfl⟩ := Int.eq_ofNat_of_zero_le (show 0 ≤ y by omega)
            go_wp2_with (go_at_call 34; refine (within_c _ _ _ _).mono ?_; rintro e w' ⟨rfl, rfl⟩; rw [Hin.out])
            obtain ⟨wo, rfl⟩ : ∃ wo : World, wo = wr := ⟨_, rfl⟩
            go_loopw [4, 33] (fun out i wz => ∃ t : Nat, i = .int .i64 t ∧ t ≤ c ∧ Hid (OI wz w.heap.size out (done ++ List.replicate t x)) ∧ Hid (Below w.heap.size w wz)) (fun _ i _ => c - (intOf i).toNat)
            case atStart => exact ⟨0, rfl, Nat.zero_le _, by simpa [Hid] using ho.out, hb.out⟩
            case round =>
              obtain ⟨t, rfl, ht, ho2, hb2⟩ := hrel
              by_cases htc : t < c
              · have htI : (t : Int) < (c : Int) := by omega
                have hc2 := hcx.out _ hb2.out
                have hi2 : 2 * (j : Int) + 1 < 2 * (m : Int) := by omega
                have hs := Lib.hid hb2.out.size
                have hlen := Lib.hid (show (done ++ List.replicate t x).length + 1 ≤ 1099511627776 by have := hdl.out; simp; omega)
                have hrep := Lib.hid (show (done ++ List.replicate t x) ++ [x] = done ++ List.replicate (t + 1) x by rw [List.append_assoc, ← List.replicate_succ'])
                go_wp2_with (at_builtin; refine wpList_app rfl _ _ rfl w.heap.size _ (done ++ List.replicate t x) rfl (ho2.out.alloc _) _ 1 1 [x] rfl rfl (cell_one_new _ _ _) hlen.out (by simp; exact Nat.le_succ_of_le hs.out) ?_; intro v' w3 ho3 hg3; rw [hrep.out] at ho3; have Ho3 := Lib.hid ho3; have Hg3 := Lib.hid hg3; clear ho3 hg3)
                go_roundw
                case rel => exact ⟨t + 1, by go_num, by omega, Ho3.out, Below.app (hb2.out.alloc hs.out _) (ho2.out.alloc _) Hg3.out (Nat.le_refl _) (by simp; exact Nat.le_succ_of_le hs.out)⟩
                case measure => simp [intOf]; omega
              · have htc' : t = c := by omega
                subst htc'
                have Hex2 : Hid (expand ps = (done ++ List.replicate t x) ++ expand (ps.drop (2 * (j + 1)))) := by
                  rw [Hid, Hex.out, expand, List.append_assoc]; rfl
                have Hct2 : Hid (cntOk ps = cntOk (ps.drop (2 * (j + 1)))) := by
                  rw [Hid, Hct.out, cntOk, Hin.out]; rfl
                go_wp2_with fail
                go_roundw
                case rel => exact ⟨j + 1, _, by go_num, by omega, by have := hdl.out; show _ ≤ _; simp; omega, Hex2.out, Hct2.out, ho2.out, hb2.out⟩
                case measure => simp [intOf]; omega
        · have hjm : j = m := by omega
          subst hjm
          have hi3 : ¬ 2 * (j : Int) < 2 * (j : Int) := by omega
          have hdr : ps.drop (2 * j) = [] := by rw [List.drop_eq_nil_iff, Hm.out]; omega
          have hex2 := hex.out
          have hct2 := hct.out
          rw [hdr] at hex2 hct2
          rw [show expand [] = [] from rfl, List.append_nil] at hex2
          have hU2 := HU.out
          rw [hct2, hex2, show cntOk [] = true from rfl, Bool.true_and] at hU2
          have hL2 : unpackL ps = if pageOk done && decide (packL done = ps) then done else [] := by rw [unpackL, hU2, hex2]
          have HU2 := Lib.hid hU2; have HL2 := Lib.hid hL2
          clear hdr hex hct hex2 hct2 hU2 hL2
          obtain ⟨pk, hpk⟩ : ∃ pk, packL done = pk := ⟨_, rfl⟩
          rw [hpk] at HU2 HL2
          have Hpk := Lib.hid hpk; clear hpk
          go_wp2_with fail
          refine (implPagePack_c done _ _ ho.out.ri).mono ?_; rintro e w3 ⟨u3, rfl, o3, hb3⟩; rw [Hpk.out] at o3
          have Ho := Lib.hid (ho.out.below hb3); have Hb3 := Lib.hid (hb.out.trans (hb3.mono hb.out.size)); have O3 := Lib.hid o3; clear hb3 o3
          cases hp : pageOk done
          · have Hp := Lib.hid hp; clear hp
            go_wp2_with fail
            go_ret2
            have fu : unpackOk ps = false := by rw [HU2.out, Hp.out]; rfl
            have fl : unpackL ps = [] := by rw [HL2.out, Hp.out]; rfl
            rw [fu, fl]
            exact ⟨_, rfl, OI.nil _ _, Hb3.out⟩
          · have Hp := Lib.hid hp; clear hp
            go_wp2_with fail
            refine (Equal_c pk ps _ _ _ O3.out.ri (Hx.out.below Hb3.out)).mono ?_; rintro e w4 ⟨rfl, hb4⟩
            have Ho4 := Lib.hid (Ho.out.below hb4); have Hb4 := Lib.hid (Hb3.out.trans (hb4.mono Hb3.out.size)); clear hb4
            by_cases heq : pk = ps
            · have he := decide_eq_true heq
              rw [he]
              have He := Lib.hid heq; clear heq he
              go_wp2_with fail
              go_ret2
              have fu : unpackOk ps = true := by rw [HU2.out, Hp.out, decide_eq_true He.out]; rfl
              have fl : unpackL ps = done := by rw [HL2.out, Hp.out, decide_eq_true He.out]; rfl
              rw [fu, fl]
              exact ⟨_, rfl, Ho4.out, Hb4.out⟩
            · have he := decide_eq_false heq
              rw [he]
              have He := Lib.hid heq; clear heq he
              go_wp2_with fail
              go_ret2
              have fu : unpackOk ps = false := by rw [HU2.out, Hp.out, decide_eq_false He.out]; rfl
              have fl : unpackL ps = [] := by rw [HL2.out, Hp.out, decide_eq_false He.out]; rfl
              rw [fu, fl]
              exact ⟨_, rfl, OI.nil _ _, Hb4.out⟩
    · have hF : unpackOk ps = false := by rw [unpackOk, decide_eq_false (fun h => h8 h.2), Bool.false_and]
      have hL : unpackL ps = [] := by simp [unpackL, hF]
      rw [hF, hL]
      have hb1 : ((ps.length : Int) % 2 != 0) = false := by simp; omega
      clear hx hF hL
      have Hev := Lib.hid hev; clear hev
      go_enter Try.func22, Try.ntmps22
      go_wp2_with fail
      go_ret2
      exact ⟨_, rfl, OI.nil _ _, Below.refl _ _⟩
  · have hF : unpackOk ps = false := by rw [unpackOk, decide_eq_false (fun h => hev h.1), Bool.false_and]
    have hL : unpackL ps = [] := by simp [unpackL, hF]
    rw [hF, hL]
    have hb1 : ((ps.length : Int) % 2 != 0) = true := by simp; omega
    clear hx hF hL
    have Hev := Lib.hid hev; clear hev
    go_enter Try.func22, Try.ntmps22
    go_wp2_with fail
    go_ret2
    exact ⟨_, rfl, OI.nil _ _, Below.refl _ _⟩

/-- the words that the reference lays: no more than five -/
def texpand (done : List Int) : List Int → List Int
  | a :: x :: r => texpand (done ++ List.replicate (min a.toNat (5 - done.length)) x) r
  | _ => done

theorem texpand_eq : ∀ (ps done : List Int), done.length + (expand ps).length ≤ 5 → texpand done ps = done ++ expand ps
  | a :: x :: r, done, h => by
    simp only [expand, List.length_append, List.length_replicate] at h
    rw [texpand, show min a.toNat (5 - done.length) = a.toNat by omega, texpand_eq r _ (by simp; omega), expand, List.append_assoc]
  | [], done, _ => by simp [texpand, expand]
  | [a], done, _ => by simp [texpand, expand]

/-- a packed page is unpacked -/
theorem unpack_pack (xs : List Int) (h : pageOk xs = true) : expand (packL xs) = xs ∧ cntOk (packL xs) = true ∧ (packL xs).length % 2 = 0 ∧ (packL xs).length ≤ 8 := by
  rw [packL, if_pos h]
  obtain ⟨a, b, c, d, rfl⟩ : ∃ a b c d, xs = [a, b, c, d] := by
    match xs, (pageOk_iff.1 h).2 with
    | [a, b, c, d], _ => exact ⟨a, b, c, d, rfl⟩
  clear h
  by_cases h1 : b = a
  · subst h1
    by_cases h2 : c = b
    · subst h2
      by_cases h3 : d = c
      · subst h3; simp [packUpto, incr, expand, cntOk, inR, List.replicate]
      · simp [packUpto, incr, expand, cntOk, inR, List.replicate, h3]
    · by_cases h3 : d = c
      · subst h3; simp [packUpto, incr, expand, cntOk, inR, List.replicate, h2]
      · simp [packUpto, incr, expand, cntOk, inR, List.replicate, h2, h3]
  · by_cases h2 : c = b
    · subst h2
      by_cases h3 : d = c
      · subst h3; simp [packUpto, incr, expand, cntOk, inR, List.replicate, h1]
      · simp [packUpto, incr, expand, cntOk, inR, List.replicate, h1, h3]
    · by_cases h3 : d = c
      · subst h3; simp [packUpto, incr, expand, cntOk, inR, List.replicate, h1, h2]
      · simp [packUpto, expand, cntOk, inR, h1, h2, h3]

theorem unpack_same (ps : List Int) : unpackOk ps = (pageOk (texpand [] ps) && decide (packL (texpand [] ps) = ps)) ∧
    unpackL ps = (if (pageOk (texpand [] ps) && decide (packL (texpand [] ps) = ps)) = true then texpand [] ps else []) := by
  cases hu : unpackOk ps
  · cases ht : (pageOk (texpand [] ps) && decide (packL (texpand [] ps) = ps))
    · exact ⟨rfl, by simp [unpackL, hu]⟩
    · exfalso
      simp only [Bool.and_eq_true, decide_eq_true_eq] at ht
      obtain ⟨h1, h2⟩ := ht
      obtain ⟨u1, u2, u3, u4⟩ := unpack_pack _ h1
      rw [h2] at u1 u2 u3 u4
      have : unpackOk ps = true := by
        simp only [unpackOk, Bool.and_eq_true, decide_eq_true_eq]
        exact ⟨⟨u3, u4⟩, u2, by rw [u1]; exact h1, by rw [u1]; exact h2⟩
      rw [hu] at this; cases this
  · have h := hu
    simp only [unpackOk, Bool.and_eq_true, decide_eq_true_eq] at h
    obtain ⟨_, _, h3, h4⟩ := h
    have hl := (pageOk_iff.1 h3).2
    have e : texpand [] ps = expand ps := by rw [texpand_eq ps [] (by simp; omega)]; rfl
    rw [e]
    have ht : (pageOk (expand ps) && decide (packL (expand ps) = ps)) = true := by simp [h3, h4]
    rw [ht]
    exact ⟨rfl, by simp [unpackL, hu]⟩

set_option maxHeartbeats 2000000 in
theorem specPageUnpack_c (ps : List Int) (v : Value) (w : World) (hx : RI w v ps) : Calls Try.prog 23 #[v] w (MadeIB w (unpackL ps) (unpackOk ps)) := by
  obtain ⟨a, cap, rfl⟩ := hx.val
  have hl := hx.1
  have HU := Lib.hid (unpack_same ps)
  have Hx := Lib.hid hx; clear hx
  go_enter Try.func23, Try.ntmps23
  go_wp2_with fail
  go_loopw [4, 5] (fun out i wr => ∃ (j : Nat) (done : List Int), i = .int .i64 (2 * (j : Int)) ∧ 2 * j ≤ ps.length + 1 ∧ Hid (done.length ≤ 5) ∧ Hid (texpand [] ps = texpand done (ps.drop (2 * j))) ∧ Hid (OI wr w.heap.size out done) ∧ Hid (Below w.heap.size w wr)) (fun _ i _ => ps.length + 2 - (intOf i).toNat)
  case atStart => exact ⟨0, [], rfl, by omega, Nat.zero_le 5, rfl, OI.lit0 (Nat.le_refl _), (Below.refl _ _).alloc (Nat.le_refl _) _⟩
  case round =>
    obtain ⟨j, done, rfl, hj, hdl, hex, ho, hb⟩ := hrel
    by_cases hlt : 2 * j + 1 < ps.length
    · have hk1 : 2 * j < ps.length := by omega
      have hd := drop_two hlt
      obtain ⟨b, off, cp, e, _, hc1⟩ := (Hx.out.below hb.out).at hk1
      simp only [Value.slice.injEq] at e
      obtain ⟨rfl, h', rfl⟩ := e
      clear h'
      have hi1 : 2 * (j : Int) < (ps.length : Int) := by omega
      have hi2 : 2 * (j : Int) + 1 < (ps.length : Int) := by omega
      have hex2 := hex.out
      rw [hd] at hex2
      have Hex := Lib.hid hex2
      clear hex hex2 hd hc1
      have hcx : Hid (∀ wz, Below w.heap.size w wz → wz.cell? ⟨b, off + 2 * j, none⟩ = some (.int .i64 ps[2 * j]) ∧ wz.cell? ⟨b, off + (2 * j + 1), none⟩ = some (.int .i64 ps[2 * j + 1])) := fun wz hz => by
        obtain ⟨b1, off1, cp1, e, _, hc1⟩ := (Hx.out.below hz).at hk1
        simp only [Value.slice.injEq, Option.some.injEq, Addr.mk.injEq] at e
        obtain ⟨⟨rfl, rfl, h0'⟩, h', h''⟩ := e
        obtain ⟨b2, off2, cp2, e, _, hc2⟩ := (Hx.out.below hz).at hlt
        simp only [Value.slice.injEq, Option.some.injEq, Addr.mk.injEq] at e
        obtain ⟨⟨rfl, rfl, h0'⟩, h', h''⟩ := e
        exact ⟨hc1, hc2⟩
      generalize ps[2 * j] = y at Hex hcx
      generalize ps[2 * j + 1] = x at Hex hcx
      go_wp2_with fail
      obtain ⟨wo, rfl⟩ : ∃ wo : World, wo = wr := ⟨_, rfl⟩
      go_loopw [4, 6] (fun out i wz => ∃ t : Nat, i = .int .i64 t ∧ t ≤ y.toNat ∧ t ≤ 5 ∧ Hid (done.length + t ≤ 5) ∧ Hid (OI wz w.heap.size out (done ++ List.replicate t x)) ∧ Hid (Below w.heap.size w wz)) (fun _ i _ => 6 - (intOf i).toNat)
      case atStart => exact ⟨0, rfl, Nat.zero_le _, by omega, hdl.out, by simpa [Hid] using ho.out, hb.out⟩
      case round =>
        obtain ⟨t, rfl, ht, ht5, hdt, ho2, hb2⟩ := hrel
        obtain ⟨hc1, hc2⟩ := hcx.out _ hb2.out
        obtain ⟨ao, co, rfl⟩ := ho2.out.ri.val
        have hn : (done ++ List.replicate t x).length = done.length + t := by simp
        have Hn := Lib.hid hn
        rw [hn]
        rw [hn] at ho2
        clear hn
        by_cases hty : (t : Int) < y
        · by_cases h4 : done.length + t ≤ 4
          · have htd : decide ((t : Int) < y) = true := by simpa using hty
            have hs := Lib.hid hb2.out.size
            have hlen := Lib.hid (show (done ++ List.replicate t x).length + 1 ≤ 1099511627776 by have := Hn.out; omega)
            have hrep := Lib.hid (show (done ++ List.replicate t x) ++ [x] = done ++ List.replicate (t + 1) x by rw [List.append_assoc, ← List.replicate_succ'])
            go_wp2_with (at_builtin; refine wpList_app rfl _ _ rfl w.heap.size _ (done ++ List.replicate t x) rfl (ho2.out.alloc _) _ 1 1 [x] rfl rfl (cell_one_new _ _ _) hlen.out (by simp; exact Nat.le_succ_of_le hs.out) ?_; intro v' w3 ho3 hg3; rw [hrep.out] at ho3; have Ho3 := Lib.hid ho3; have Hg3 := Lib.hid hg3; clear ho3 hg3)
            go_roundw
            case rel => exact ⟨t + 1, by go_num, by omega, by omega, by show _ ≤ _; omega, Ho3.out, Below.app (hb2.out.alloc hs.out _) (ho2.out.alloc _) Hg3.out (Nat.le_refl _) (by simp; exact Nat.le_succ_of_le hs.out)⟩
            case measure => simp [intOf]; omega
          · have htd : decide ((t : Int) < y) = true := by simpa using hty
            have hmin : min y.toNat (5 - done.length) = t := by have := hdt.out; omega
            have Hex2 : Hid (texpand [] ps = texpand (done ++ List.replicate t x) (ps.drop (2 * (j + 1)))) := by
              rw [Hid, Hex.out, texpand, hmin]; rfl
            clear hmin
            go_wp2_with fail
            go_roundw
            case rel => exact ⟨j + 1, _, by go_num, by omega, by show _ ≤ _; rw [Hn.out]; exact hdt.out, Hex2.out, ho2.out, hb2.out⟩
            case measure => simp [intOf]; omega
        · have hmin : min y.toNat (5 - done.length) = t := by have := hdt.out; omega
          have Hex2 : Hid (texpand [] ps = texpand (done ++ List.replicate t x) (ps.drop (2 * (j + 1)))) := by
            rw [Hid, Hex.out, texpand, hmin]; rfl
          clear hmin
          go_wp2_with fail
          go_roundw
          case rel => exact ⟨j + 1, _, by go_num, by omega, by show _ ≤ _; rw [Hn.out]; exact hdt.out, Hex2.out, ho2.out, hb2.out⟩
          case measure => simp [intOf]; omega
    · have hi3 : ¬ 2 * (j : Int) + 1 < (ps.length : Int) := by omega
      have hdr : texpand done (ps.drop (2 * j)) = done := by
        by_cases h0 : 2 * j < ps.length
        · rw [List.drop_eq_getElem_cons h0, List.drop_of_length_le (by omega)]; rfl
        · rw [List.drop_of_length_le (by omega)]; rfl
      have hex2 := hex.out
      rw [hdr] at hex2
      have hU := HU.out
      rw [hex2] at hU
      have HU2 := Lib.hid hU.1; have HL2 := Lib.hid hU.2
      clear hdr hex hex2 hU HU
      obtain ⟨pk, hpk⟩ : ∃ pk, packL done = pk := ⟨_, rfl⟩
      rw [hpk] at HU2 HL2
      have Hpk := Lib.hid hpk; clear hpk
      go_wp2_with fail
      refine (specPagePack_c done _ _ ho.out.ri).mono ?_; rintro e w3 ⟨u3, rfl, o3, hb3⟩; rw [Hpk.out] at o3
      have Ho := Lib.hid (ho.out.below hb3); have Hb3 := Lib.hid (hb.out.trans (hb3.mono hb.out.size)); have O3 := Lib.hid o3; clear hb3 o3
      have Hsz := Lib.hid Hb3.out.size
      cases hp : pageOk done
      · have Hp := Lib.hid hp; clear hp
        go_wp2_with fail
        go_ret2
        have fu : unpackOk ps = false := by rw [HU2.out, Hp.out]; rfl
        have fl : unpackL ps = [] := by rw [HL2.out, Hp.out]; rfl
        rw [fu, fl]
        exact ⟨_, rfl, OI.lit0 Hsz.out, Hb3.out.alloc Hsz.out _⟩
      · have Hp := Lib.hid hp; clear hp
        go_wp2_with fail
        refine (l34Same_c pk ps _ _ _ O3.out.ri (Hx.out.below Hb3.out)).mono ?_; rintro e w4 ⟨rfl, hb4⟩
        have Ho4 := Lib.hid (Ho.out.below hb4); have Hb4 := Lib.hid (Hb3.out.trans (hb4.mono Hb3.out.size)); clear hb4
        have Hsz4 := Lib.hid Hb4.out.size
        by_cases heq : pk = ps
        · have he := decide_eq_true heq
          rw [he]
          have He := Lib.hid heq; clear heq he
          go_wp2_with fail
          go_ret2
          have fu : unpackOk ps = true := by rw [HU2.out, Hp.out, decide_eq_true He.out]; rfl
          have fl : unpackL ps = done := by rw [HL2.out, Hp.out, decide_eq_true He.out]; rfl
          rw [fu, fl]
          exact ⟨_, rfl, Ho4.out, Hb4.out⟩
        · have he := decide_eq_false heq
          rw [he]
          have He := Lib.hid heq; clear heq he
          go_wp2_with fail
          go_ret2
          have fu : unpackOk ps = false := by rw [HU2.out, Hp.out, decide_eq_false He.out]; rfl
          have fl : unpackL ps = [] := by rw [HL2.out, Hp.out, decide_eq_false He.out]; rfl
          rw [fu, fl]
          exact ⟨_, rfl, OI.lit0 Hsz4.out, Hb4.out.alloc Hsz4.out _⟩
end Go.Proofs.Ytnohlcffmikecaa
