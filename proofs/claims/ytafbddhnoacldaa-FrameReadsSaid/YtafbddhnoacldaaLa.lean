/-
  PROVED: the statement FrameReads of its function. Conditions: none.
-/
import Derived.Test.YtafbddhnoacldaaEa
import Derived.Test.YtafbddhnoacldaaDb
namespace Go.Ev.M
open Go.Proofs
set_option maxRecDepth 100000
set_option linter.unusedVariables false
set_option linter.unusedSimpArgs false

open Go.Ev.Pl
theorem frOf_bytes {l : List Bool} {c : Int × Int × Int × Int × Int} (hc : True) : bytesOk (frOf l c).1.2.2.2.2 := by
  have hz : bytesOk zeroF.2.2.2.2 := fun x hx => by cases hx
  rw [frOf]
  cases !fitsL l.length (kindOf l)
  · rw [cond_false]
    cases kindOf l == 1
    · rw [cond_false]
      cases kindOf l == 2
      · rw [cond_false]
        cases kindOf l == 3
        · rw [cond_false]
          cases fld l 5 2 != 0
          · rw [cond_false]
            cases over 0 (l.take 55) != 0 || over (over 0 ((l.drop 7).take 24)) l != 0
            · rw [cond_false]
              cases !stOk (stOf ((l.drop 7).take 24)) || decide (4 < fld l 2 3)
              · exact dataOf_ok _ _
              · exact hz
            · exact hz
          · exact hz
        · rw [cond_true]
          cases fld l 5 1 != 0
          · rw [cond_false]
            cases over 0 l != 0
            · rw [cond_false]
              cases !stOk (stOf ((l.drop 6).take 24)) || decide (4 < fld l 2 3)
              · intro x hx; cases hx
              · exact hz
            · exact hz
          · exact hz
      · rw [cond_true]
        cases over (over 0 (stBits c)) l != 0
        · rw [cond_false]
          cases decide (4 < fld l 2 3)
          · exact dataOf_ok _ _
          · exact hz
        · exact hz
    · rw [cond_true]
      cases fld l 13 3 != 0
      · rw [cond_false]
        cases over 0 l != 0
        · intro x hx; cases hx
        · exact hz
      · exact hz
  · exact hz
theorem parS_bytes {b : Int × List Int} {c : Int × Int × Int × Int × Int} : bytesOk (parS (b, c)).1.2.2.2.2 := by
  have hz : bytesOk zeroF.2.2.2.2 := fun x hx => by cases hx
  rw [parS]
  cases !bsOk b
  · rw [cond_false]
    cases !stOk c
    · exact frOf_bytes trivial
    · exact hz
  · exact hz
theorem goodS_bytes {b : Int × List Int} {c : Int × Int × Int × Int × Int} : bytesOk (goodS (b, c)).1.2.2.2.2 := by
  rw [goodS]
  cases ((parS (b, c)).2 != 0 || (parS (b, c)).1.1 == 1 || (parS (b, c)).1.2.2.1 != c)
  · exact parS_bytes
  · intro x hx; cases hx
theorem explS_bytes {b : Int × List Int} : bytesOk (explS b).1.2.2.2.2 := by
  rw [explS]
  cases ((parS (b, zS)).2 != 0 || (parS (b, zS)).1.1 == 2)
  · exact parS_bytes
  · intro x hx; cases hx
theorem same_doc {f : Int × Int × (Int × Int × Int × Int × Int) × Int × List Int} {g : Int × Int × (Int × Int × Int × Int × Int) × Int × List Int} (hf : bytesOk f.2.2.2.2) (hg : bytesOk g.2.2.2.2) : fn44 (f, g) = frEq f g := by
  obtain ⟨k, r, ⟨t, p, m, n, s⟩, fr, d⟩ := f
  obtain ⟨k', r', ⟨t', p', m', n', s'⟩, fr', d'⟩ := g
  exact fn44_eq hf hg

/-! ### metronome/metronomelaw05.FrameReads (function 13) -/
def t13 (A : Alg) (bN : Int) (bB : List Int) (cTime : Int) (cPos : Int) (cMode : Int) (cNext : Int) (cMember : Int) : LT Bool Empty :=
  .need (A.call (@tt ((Int × List Int) × (Int × Int × Int × Int × Int))) ((bN, bB), cTime, cPos, cMode, cNext, cMember)) (
  .need (A.call (@tt ((Int × List Int) × (Int × Int × Int × Int × Int))) ((bN, bB), cTime, cPos, cMode, cNext, cMember)) (
  .need (A.call (@tt ((Int × List Int) × (Int × Int × Int × Int × Int))) ((bN, bB), cTime, cPos, cMode, cNext, cMember)) (
  .need (A.call (@tt ((Int × List Int) × (Int × Int × Int × Int × Int))) ((bN, bB), cTime, cPos, cMode, cNext, cMember)) (
  .need (A.call (@tt ((Int × List Int))) (bN, bB)) (
  .need (A.call (@tt ((Int × List Int))) (bN, bB)) (
  .need (A.call (@tt Unit) ()) (
  .br (A.call fn47 ())
  (.need (A.call (@tt ((Int × Int × (Int × Int × Int × Int × Int) × Int × List Int) × (Int × Int × (Int × Int × Int × Int × Int) × Int × List Int))) ((A.call fn50 ((bN, bB), cTime, cPos, cMode, cNext, cMember)).1, (A.call fn52 ((bN, bB), cTime, cPos, cMode, cNext, cMember)).1)) (
  .br (A.call fn44 ((A.call fn50 ((bN, bB), cTime, cPos, cMode, cNext, cMember)).1, (A.call fn52 ((bN, bB), cTime, cPos, cMode, cNext, cMember)).1))
  (.br (A.cmp .eql (A.call fn50 ((bN, bB), cTime, cPos, cMode, cNext, cMember)).2 (A.call fn52 ((bN, bB), cTime, cPos, cMode, cNext, cMember)).2)
  (.need (A.call (@tt ((Int × Int × (Int × Int × Int × Int × Int) × Int × List Int) × (Int × Int × (Int × Int × Int × Int × Int) × Int × List Int))) ((A.call fn53 ((bN, bB), cTime, cPos, cMode, cNext, cMember)).1, (A.call fn54 ((bN, bB), cTime, cPos, cMode, cNext, cMember)).1)) (
  .br (A.call fn44 ((A.call fn53 ((bN, bB), cTime, cPos, cMode, cNext, cMember)).1, (A.call fn54 ((bN, bB), cTime, cPos, cMode, cNext, cMember)).1))
  (.br (A.beq (A.call fn53 ((bN, bB), cTime, cPos, cMode, cNext, cMember)).2 (A.call fn54 ((bN, bB), cTime, cPos, cMode, cNext, cMember)).2)
  (.need (A.call (@tt ((Int × Int × (Int × Int × Int × Int × Int) × Int × List Int) × (Int × Int × (Int × Int × Int × Int × Int) × Int × List Int))) ((A.call fn51 (bN, bB)).1, (A.call fn55 (bN, bB)).1)) (
  .br (A.call fn44 ((A.call fn51 (bN, bB)).1, (A.call fn55 (bN, bB)).1))
  (.ret (A.beq (A.call fn51 (bN, bB)).2 (A.call fn55 (bN, bB)).2))
  (.ret false)))
  (.ret false))
  (.ret false)))
  (.ret false))
  (.ret false)))
  (.ret false))))))))
noncomputable def E13 (A : Alg) : Info (Ty.Ts [.bool]) := { ti := tys, fns := [(13, Try.f13)], sps := [(44, sp44), (47, sp47), (50, sp50), (51, sp51), (52, sp52), (53, sp53), (54, sp54), (55, sp55)], stops := [], cuts := [], consts := [], fin := finD A [.bool] }
theorem t13_ok (A : Alg) (bN : Int) (bB : List Int) (cTime : Int) (cPos : Int) (cMode : Int) (cNext : Int) (cMember : Int) : run A (E13 A) 117 (startC 13 Try.f13 (dvals A [(.struct [(.int .i64), (.slice (.int .u8))]), (.struct [(.int .i64), (.int .i64), (.int .i64), (.int .i64), (.int .i64)])] ((bN, bB), cTime, cPos, cMode, cNext, cMember))) = (t13 A bN bB cTime cPos cMode cNext cMember).tr Empty.elim := by kernel_rfl
def w13 : Walk Try.prog 13 [(.struct [(.int .i64), (.slice (.int .u8))]), (.struct [(.int .i64), (.int .i64), (.int .i64), (.int .i64), (.int .i64)])] [.bool] Empty := ⟨fun ((bN, bB), cTime, cPos, cMode, cNext, cMember) => t13 std bN bB cTime cPos cMode cNext cMember, Empty.elim⟩
theorem w13_ok : w13.Ok :=
  walk_ok (E := E13 std) ⟨tys_fit, fns_cons Try.func13 (by kernel_rfl) (fns_nil), sps_cons so44 (sps_cons so47 (sps_cons so50 (sps_cons so51 (sps_cons so52 (sps_cons so53 (sps_cons so54 (sps_cons so55 (sps_nil)))))))), by kernel_rfl⟩ rfl rfl rfl (by kernel_rfl) w13 Empty.elim 117 (fun ((bN, bB), cTime, cPos, cMode, cNext, cMember) => t13_ok std bN bB cTime cPos cMode cNext cMember) (fun y => y.elim)

def fn13 : ((Int × List Int) × (Int × Int × Int × Int × Int)) → Bool := fun ((bN, bB), cTime, cPos, cMode, cNext, cMember) => (t13 std bN bB cTime cPos cMode cNext cMember).val (Ty.dflts [.bool])
def sp13 : FSpec := ⟨[(.struct [(.int .i64), (.slice (.int .u8))]), (.struct [(.int .i64), (.int .i64), (.int .i64), (.int .i64), (.int .i64)])], [.bool], (@tt ((Int × List Int) × (Int × Int × Int × Int × Int))), fn13⟩
theorem eqs13 (bN : Int) (bB : List Int) (cTime : Int) (cPos : Int) (cMode : Int) (cNext : Int) (cMember : Int) : (t13 std bN bB cTime cPos cMode cNext cMember).Eqs := by simp only [t13, LT.Eqs, and_self, true_and, and_true]
theorem pre13_ok {bN : Int} {bB : List Int} {cTime : Int} {cPos : Int} {cMode : Int} {cNext : Int} {cMember : Int} (h : Ty.hass [(.struct [(.int .i64), (.slice (.int .u8))]), (.struct [(.int .i64), (.int .i64), (.int .i64), (.int .i64), (.int .i64)])] ((bN, bB), cTime, cPos, cMode, cNext, cMember)) : (t13 std bN bB cTime cPos cMode cNext cMember).pre = true := by
  simp [t13, LT.pre, std_call, tt_eq]
theorem so13 : FSpec.Sound Try.prog 13 sp13 :=
  w13_ok.sound _ _ fun ((bN, bB), cTime, cPos, cMode, cNext, cMember) _ h => LT.runs (d := Ty.dflts [.bool]) (eqs13 bN bB cTime cPos cMode cNext cMember) (pre13_ok h)
theorem law13 (x : (Int × List Int) × (Int × Int × Int × Int × Int)) (_ : Ty.hass [(.struct [(.int .i64), (.slice (.int .u8))]), (.struct [(.int .i64), (.int .i64), (.int .i64), (.int .i64), (.int .i64)])] x) : fn13 x = true := by
  obtain ⟨⟨bn, bb⟩, ⟨t, p, m, n, s⟩⟩ := x
  simp only [fn13, t13, LT.val, std_call, begun05, fn53_eq, fn54_eq, fn51_eq, fn55_eq, fn50, fn52, same_doc parS_bytes parS_bytes, same_doc goodS_bytes goodS_bytes, same_doc explS_bytes explS_bytes, frEq_self, std_cmp_eql, std_beq, beq_self_eq_true, cond_true]

end Go.Ev.M
