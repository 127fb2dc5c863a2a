/- The law of this text is proved here. Its conditions: none. -/
import Derived.Test.YtdnjanhdnibkfaaGreatDoorF0
import Derived.Test.YtdnjanhdnibkfaaGreatDoorCards
import Derived.Test.YtdnjanhdnibkfaaGreatDoorTie
import Derived.Test.YtdnjanhdnibkfaaGreatDoorF5
import Derived.Test.YtdnjanhdnibkfaaGreatDoorF2
import Derived.Test.YtdnjanhdnibkfaaGreatDoorF1
import Derived.Test.YtdnjanhdnibkfaaGreatDoorF4
namespace Go.Proofs.YtdnjanhdnibkfaaGreatDoor
open Go.Proofs.Tryz
open Go.Proofs Go.Proofs.YtdnjanhdnibkfaaGreatDoor.Jd
open Go.ChangeShapes Go.WideShapes Go.ChangeAt Go.RowKit Go.ChangeMaps
set_option maxRecDepth 100000
set_option linter.unusedVariables false
set_option linter.unusedSimpArgs false
theorem AS4 {W : World} (h : laidMetH Tryz.prog Rows.sessionForgetsRow.laid W) (hsh : W.ShapedOpen Tryz.prog) : Gl W := by
  have h2 : laidMet Tryz.prog qE W ∧ handlesMet Tryz.prog [("errors.errorType", Rows.laid_errors_errorType)] W := h
  have h := h2.1
  exact ⟨Tryz.laysM145.s1_3 W hsh, Lib.tabIs_of_head (rest := [("wicketgate/ports.errPorts", Rows.laid_wicketgate_ports_errPorts), ("wicketgate/ports.errTarget", Rows.laid_wicketgate_ports_errTarget), ("wicketgate/sha.constants", Rows.laid_wicketgate_sha_constants), ("wicketgate/mac.errKey", Rows.laid_wicketgate_mac_errKey), ("wicketgate/mac.errArg", Rows.laid_wicketgate_mac_errArg), ("wicketgate/wire.errArg", Rows.laid_wicketgate_wire_errArg), ("wicketgate/wire.errMore", Rows.laid_wicketgate_wire_errMore), ("wicketgate/wire.errKind", Rows.laid_wicketgate_wire_errKind), ("wicketgate/wire.errLong", Rows.laid_wicketgate_wire_errLong), ("wicketgate/wire.errFrame", Rows.laid_wicketgate_wire_errFrame), ("wicketgate/acl.errRules", Rows.laid_wicketgate_acl_errRules), ("wicketgate/acl.errRule", Rows.laid_wicketgate_acl_errRule), ("wicketgate/acl.errPlace", Rows.laid_wicketgate_acl_errPlace), ("wicketgate/acl.errTarget", Rows.laid_wicketgate_acl_errTarget), ("wicketgate/roles.verbs", Rows.laid_wicketgate_roles_verbs), ("wicketgate/session.errSession", Rows.laid_wicketgate_session_errSession), ("wicketgate/session.errFrame", Rows.laid_wicketgate_session_errFrame), ("wicketgate/session.errStream", Rows.laid_wicketgate_session_errStream)]) (g := 20) z6 z6 underlying371 underlying329 z6 z6 (Bu (Bu h)), Kn (g := 15) z6 (gJ (l := [(1, [99, 114, 101, 97, 116, 101], 4), (2, [115, 117, 115, 112, 101, 110, 100], 2), (3, [114, 101, 115, 117, 109, 101], 2), (4, [100, 114, 97, 105, 110], 2), (5, [100, 101, 108, 101, 116, 101], 4), (6, [114, 111, 116, 97, 116, 101], 4), (7, [97, 99, 108], 4), (8, [107, 105, 108, 108], 2), (9, [108, 105, 115, 116], 1), (10, [115, 104, 111, 119], 1)]) (rest := [("wicketgate/session.errSession", Rows.laid_wicketgate_session_errSession), ("wicketgate/session.errFrame", Rows.laid_wicketgate_session_errFrame), ("wicketgate/session.errStream", Rows.laid_wicketgate_session_errStream)]) (g := 15) z6 z6 underlying358 underlying288 rfl z6 z6 rfl rfl rfl underlying3 underlying9 underlying3 z6 z6 z6 z6 (Bu (Bu (Bu (Bu (Bu (Bu (Bu (Bu (Bu (Bu (Bu (Bu (Bu (Bu (Bu (Bu (Bu h)))))))))))))))))), Kn (g := 11) z6 (show Lib.TabIs Tryz.prog W "wicketgate/sha.constants" .u32 Rg from Lib.tabIs_of_head (rest := [("wicketgate/mac.errKey", Rows.laid_wicketgate_mac_errKey), ("wicketgate/mac.errArg", Rows.laid_wicketgate_mac_errArg), ("wicketgate/wire.errArg", Rows.laid_wicketgate_wire_errArg), ("wicketgate/wire.errMore", Rows.laid_wicketgate_wire_errMore), ("wicketgate/wire.errKind", Rows.laid_wicketgate_wire_errKind), ("wicketgate/wire.errLong", Rows.laid_wicketgate_wire_errLong), ("wicketgate/wire.errFrame", Rows.laid_wicketgate_wire_errFrame), ("wicketgate/acl.errRules", Rows.laid_wicketgate_acl_errRules), ("wicketgate/acl.errRule", Rows.laid_wicketgate_acl_errRule), ("wicketgate/acl.errPlace", Rows.laid_wicketgate_acl_errPlace), ("wicketgate/acl.errTarget", Rows.laid_wicketgate_acl_errTarget), ("wicketgate/roles.verbs", Rows.laid_wicketgate_roles_verbs), ("wicketgate/session.errSession", Rows.laid_wicketgate_session_errSession), ("wicketgate/session.errFrame", Rows.laid_wicketgate_session_errFrame), ("wicketgate/session.errStream", Rows.laid_wicketgate_session_errStream)]) (g := 11) z6 z6 underlying247 underlying163 z6 z6 (Bu (Bu (Bu (Bu (Bu h)))))), sL h2.2 List.mem_cons_self rfl rfl z6 z6 (N := 430) z6 z6 z6⟩
theorem jg1 : Tryz.pinned.checked.prog.inPlace 6 = Rows.sessionForgetsRow.inPlace := by kernel_rfl
theorem jg2 : Tryz.pinned.checked.prog.unfollowed 6 = Rows.sessionForgetsRow.unfollowed := by kernel_rfl
theorem jg3 : Tryz.pinned.checked.prog.recurses 6 = Rows.sessionForgetsRow.recurses := by kernel_rfl
theorem jg4 : Tryz.pinned.checked.prog.varsNamed 6 = Rows.sessionForgetsRow.named := by kernel_rfl
theorem AS5 {W : World} (h : laidMetH Tryz.prog Rows.sessionForgetsRow.laid W) : ∃ ea0 ea1 ea2 ea3 ea4 ea5 ea6 ea7 ea8 ea9 ea10 ea11 ea12 ea13 ea14 ea15 : Addr, Er W ea0 ea1 ea2 ea3 ea4 ea5 ea6 ea7 ea8 ea9 ea10 ea11 ea12 ea13 ea14 ea15 := by
  have h2 : laidMet Tryz.prog qE W ∧ handlesMet Tryz.prog [("errors.errorType", Rows.laid_errors_errorType)] W := h
  have h := h2.1
  obtain ⟨ea0, v0, b0⟩ := Fe (laidMet.tail (laidMet.tail (laidMet.tail (laidMet.tail (laidMet.tail (laidMet.tail (laidMet.tail (laidMet.tail (laidMet.tail (laidMet.tail (laidMet.tail (laidMet.tail (laidMet.tail (laidMet.tail (laidMet.tail (laidMet.tail (laidMet.tail (laidMet.tail h)))))))))))))))))) AG5 AG6 underlying93 Eo underlying400 underlying419 rfl rfl underlying9 Gm Gn
  obtain ⟨ea1, v1, b1⟩ := Fe (laidMet.tail (laidMet.tail (laidMet.tail (laidMet.tail (laidMet.tail (laidMet.tail (laidMet.tail (laidMet.tail (laidMet.tail (laidMet.tail (laidMet.tail (laidMet.tail (laidMet.tail (laidMet.tail (laidMet.tail (laidMet.tail (laidMet.tail (laidMet.tail (laidMet.tail h))))))))))))))))))) AG7 AG8 underlying93 Eo underlying400 underlying419 rfl rfl underlying9 Gm Gn
  obtain ⟨ea2, v2, b2⟩ := Fe (laidMet.tail (laidMet.tail (laidMet.tail (laidMet.tail (laidMet.tail (laidMet.tail (laidMet.tail h))))))) AQ0 AQ1 underlying93 Eo underlying400 underlying419 rfl rfl underlying9 Gm Gn
  obtain ⟨ea3, v3, b3⟩ := Fe (laidMet.tail (laidMet.tail (laidMet.tail (laidMet.tail h)))) AQ2 AQ3 underlying93 Eo underlying400 underlying419 rfl rfl underlying9 Gm Gn
  obtain ⟨ea4, v4, b4⟩ := Fe (laidMet.tail (laidMet.tail (laidMet.tail (laidMet.tail (laidMet.tail (laidMet.tail (laidMet.tail (laidMet.tail (laidMet.tail (laidMet.tail (laidMet.tail (laidMet.tail (laidMet.tail h))))))))))))) Q9 R0 underlying93 Eo underlying400 underlying419 rfl rfl underlying9 Gm Gn
  obtain ⟨ea5, v5, b5⟩ := Fe (laidMet.tail (laidMet.tail (laidMet.tail (laidMet.tail (laidMet.tail (laidMet.tail (laidMet.tail (laidMet.tail (laidMet.tail (laidMet.tail (laidMet.tail (laidMet.tail (laidMet.tail (laidMet.tail (laidMet.tail (laidMet.tail (laidMet.tail (laidMet.tail (laidMet.tail (laidMet.tail h)))))))))))))))))))) AG9 AH0 underlying93 Eo underlying400 underlying419 rfl rfl underlying9 Gm Gn
  obtain ⟨ea6, v6, b6⟩ := Fe (laidMet.tail (laidMet.tail (laidMet.tail (laidMet.tail (laidMet.tail (laidMet.tail h)))))) AQ4 AQ5 underlying93 Eo underlying400 underlying419 rfl rfl underlying9 Gm Gn
  obtain ⟨ea7, v7, b7⟩ := Fe (laidMet.tail (laidMet.tail (laidMet.tail h))) AQ6 AQ7 underlying93 Eo underlying400 underlying419 rfl rfl underlying9 Gm Gn
  obtain ⟨ea8, v8, b8⟩ := Fe (laidMet.tail (laidMet.tail (laidMet.tail (laidMet.tail (laidMet.tail (laidMet.tail (laidMet.tail (laidMet.tail (laidMet.tail (laidMet.tail (laidMet.tail (laidMet.tail (laidMet.tail (laidMet.tail h)))))))))))))) R1 R2 underlying93 Eo underlying400 underlying419 rfl rfl underlying9 Gm Gn
  obtain ⟨ea9, v9, b9⟩ := Fe (laidMet.tail (laidMet.tail (laidMet.tail (laidMet.tail (laidMet.tail (laidMet.tail (laidMet.tail (laidMet.tail (laidMet.tail (laidMet.tail (laidMet.tail (laidMet.tail (laidMet.tail (laidMet.tail (laidMet.tail h))))))))))))))) R3 R4 underlying93 Eo underlying400 underlying419 rfl rfl underlying9 Gm Gn
  obtain ⟨ea10, v10, b10⟩ := Fe (laidMet.tail (laidMet.tail (laidMet.tail (laidMet.tail (laidMet.tail (laidMet.tail (laidMet.tail (laidMet.tail (laidMet.tail (laidMet.tail (laidMet.tail (laidMet.tail (laidMet.tail (laidMet.tail (laidMet.tail (laidMet.tail h)))))))))))))))) qF qG underlying93 Eo underlying400 underlying419 rfl rfl underlying9 Gm Gn
  obtain ⟨ea11, v11, b11⟩ := Fe (laidMet.tail (laidMet.tail (laidMet.tail (laidMet.tail (laidMet.tail (laidMet.tail (laidMet.tail (laidMet.tail h)))))))) AQ8 AQ9 underlying93 Eo underlying400 underlying419 rfl rfl underlying9 Gm Gn
  obtain ⟨ea12, v12, b12⟩ := Fe (laidMet.tail (laidMet.tail (laidMet.tail (laidMet.tail (laidMet.tail (laidMet.tail (laidMet.tail (laidMet.tail (laidMet.tail h))))))))) AR0 AR1 underlying93 Eo underlying400 underlying419 rfl rfl underlying9 Gm Gn
  obtain ⟨ea13, v13, b13⟩ := Fe (laidMet.tail (laidMet.tail (laidMet.tail (laidMet.tail (laidMet.tail (laidMet.tail (laidMet.tail (laidMet.tail (laidMet.tail (laidMet.tail h)))))))))) AR2 AR3 underlying93 Eo underlying400 underlying419 rfl rfl underlying9 Gm Gn
  obtain ⟨ea14, v14, b14⟩ := Fe (laidMet.tail (laidMet.tail (laidMet.tail (laidMet.tail (laidMet.tail (laidMet.tail (laidMet.tail (laidMet.tail (laidMet.tail (laidMet.tail (laidMet.tail h))))))))))) AR4 AR5 underlying93 Eo underlying400 underlying419 rfl rfl underlying9 Gm Gn
  obtain ⟨ea15, v15, b15⟩ := Fe (laidMet.tail (laidMet.tail (laidMet.tail (laidMet.tail (laidMet.tail (laidMet.tail (laidMet.tail (laidMet.tail (laidMet.tail (laidMet.tail (laidMet.tail (laidMet.tail h)))))))))))) AR6 AR7 underlying93 Eo underlying400 underlying419 rfl rfl underlying9 Gm Gn
  have n0_1 : ea0 ≠ ea1 := Ja (laidMet.tail (laidMet.tail (laidMet.tail (laidMet.tail (laidMet.tail (laidMet.tail (laidMet.tail (laidMet.tail (laidMet.tail (laidMet.tail (laidMet.tail (laidMet.tail (laidMet.tail (laidMet.tail (laidMet.tail (laidMet.tail (laidMet.tail (laidMet.tail h)))))))))))))))))) AG5 AG6 AG7 AG8 underlying93 Eo underlying400 underlying419 rfl rfl underlying9 Gm Gn v0 v1
  have n0_5 : ea0 ≠ ea5 := Ja (Iz (laidMet.tail (laidMet.tail (laidMet.tail (laidMet.tail (laidMet.tail (laidMet.tail (laidMet.tail (laidMet.tail (laidMet.tail (laidMet.tail (laidMet.tail (laidMet.tail (laidMet.tail (laidMet.tail (laidMet.tail (laidMet.tail (laidMet.tail (laidMet.tail h))))))))))))))))))) AG5 AG6 AG9 AH0 underlying93 Eo underlying400 underlying419 rfl rfl underlying9 Gm Gn v0 v5
  have n1_5 : ea1 ≠ ea5 := Ja (laidMet.tail (laidMet.tail (laidMet.tail (laidMet.tail (laidMet.tail (laidMet.tail (laidMet.tail (laidMet.tail (laidMet.tail (laidMet.tail (laidMet.tail (laidMet.tail (laidMet.tail (laidMet.tail (laidMet.tail (laidMet.tail (laidMet.tail (laidMet.tail (laidMet.tail h))))))))))))))))))) AG7 AG8 AG9 AH0 underlying93 Eo underlying400 underlying419 rfl rfl underlying9 Gm Gn v1 v5
  have n4_8 : ea4 ≠ ea8 := Ja (laidMet.tail (laidMet.tail (laidMet.tail (laidMet.tail (laidMet.tail (laidMet.tail (laidMet.tail (laidMet.tail (laidMet.tail (laidMet.tail (laidMet.tail (laidMet.tail (laidMet.tail h))))))))))))) Q9 R0 R1 R2 underlying93 Eo underlying400 underlying419 rfl rfl underlying9 Gm Gn v4 v8
  have n4_9 : ea4 ≠ ea9 := Ja (Iz (laidMet.tail (laidMet.tail (laidMet.tail (laidMet.tail (laidMet.tail (laidMet.tail (laidMet.tail (laidMet.tail (laidMet.tail (laidMet.tail (laidMet.tail (laidMet.tail (laidMet.tail h)))))))))))))) Q9 R0 R3 R4 underlying93 Eo underlying400 underlying419 rfl rfl underlying9 Gm Gn v4 v9
  have n4_10 : ea4 ≠ ea10 := Ja (Iz (Iz (laidMet.tail (laidMet.tail (laidMet.tail (laidMet.tail (laidMet.tail (laidMet.tail (laidMet.tail (laidMet.tail (laidMet.tail (laidMet.tail (laidMet.tail (laidMet.tail (laidMet.tail h))))))))))))))) Q9 R0 qF qG underlying93 Eo underlying400 underlying419 rfl rfl underlying9 Gm Gn v4 v10
  have n6_2 : ea6 ≠ ea2 := Ja (laidMet.tail (laidMet.tail (laidMet.tail (laidMet.tail (laidMet.tail (laidMet.tail h)))))) AQ4 AQ5 AQ0 AQ1 underlying93 Eo underlying400 underlying419 rfl rfl underlying9 Gm Gn v6 v2
  have n7_3 : ea7 ≠ ea3 := Ja (laidMet.tail (laidMet.tail (laidMet.tail h))) AQ6 AQ7 AQ2 AQ3 underlying93 Eo underlying400 underlying419 rfl rfl underlying9 Gm Gn v7 v3
  have n8_9 : ea8 ≠ ea9 := Ja (laidMet.tail (laidMet.tail (laidMet.tail (laidMet.tail (laidMet.tail (laidMet.tail (laidMet.tail (laidMet.tail (laidMet.tail (laidMet.tail (laidMet.tail (laidMet.tail (laidMet.tail (laidMet.tail h)))))))))))))) R1 R2 R3 R4 underlying93 Eo underlying400 underlying419 rfl rfl underlying9 Gm Gn v8 v9
  have n8_10 : ea8 ≠ ea10 := Ja (Iz (laidMet.tail (laidMet.tail (laidMet.tail (laidMet.tail (laidMet.tail (laidMet.tail (laidMet.tail (laidMet.tail (laidMet.tail (laidMet.tail (laidMet.tail (laidMet.tail (laidMet.tail (laidMet.tail h))))))))))))))) R1 R2 qF qG underlying93 Eo underlying400 underlying419 rfl rfl underlying9 Gm Gn v8 v10
  have n9_10 : ea9 ≠ ea10 := Ja (laidMet.tail (laidMet.tail (laidMet.tail (laidMet.tail (laidMet.tail (laidMet.tail (laidMet.tail (laidMet.tail (laidMet.tail (laidMet.tail (laidMet.tail (laidMet.tail (laidMet.tail (laidMet.tail (laidMet.tail h))))))))))))))) R3 R4 qF qG underlying93 Eo underlying400 underlying419 rfl rfl underlying9 Gm Gn v9 v10
  exact ⟨ea0, ea1, ea2, ea3, ea4, ea5, ea6, ea7, ea8, ea9, ea10, ea11, ea12, ea13, ea14, ea15, ⟨v0, b0, v1, b1, v2, b2, v3, b3, v4, b4, v5, b5, v6, b6, v7, b7, v8, b8, v9, b9, v10, b10, v11, b11, v12, b12, v13, b13, v14, b14, v15, b15, n0_1.symm, n6_2.symm, n7_3.symm, n0_5.symm, n1_5.symm, n4_8.symm, n4_9.symm, n8_9.symm, n4_10.symm, n8_10.symm, n9_10.symm⟩⟩
theorem Ow (H : Type) (enc : TypeId × Value → H) (W : World) (base : Nat) (args : Array Value) (ds gs : List (DataW H)) (before : List MemPlace)
    (hval : ∀ (j : Nat) t v, Tryz.f6.params[j]? = some t → args[j]? = some v → Value.okWide Tryz.prog W .any base t v)
    (hW : DataW.Whole enc Tryz.prog Tryz.f6.params.toList Rows.sessionForgetsSpec.vars false W args.toList ds gs before) (hG : Gl W) (hE : ∃ ea0 ea1 ea2 ea3 ea4 ea5 ea6 ea7 ea8 ea9 ea10 ea11 ea12 ea13 ea14 ea15 : Addr, Er W ea0 ea1 ea2 ea3 ea4 ea5 ea6 ea7 ea8 ea9 ea10 ea11 ea12 ea13 ea14 ea15) :
    Calls Tryz.prog 6 args W fun e W' => ∃ v, e = .returned v ∧ Rows.sessionForgetsSpec.post enc Tryz.prog Tryz.f6 false true false false W args v W' := by
  obtain ⟨ea0, ea1, ea2, ea3, ea4, ea5, ea6, ea7, ea8, ea9, ea10, ea11, ea12, ea13, ea14, ea15, hE⟩ := hE
  have hW' := hW
  obtain ⟨p, q, hA, hV, rfl, hfz, oS⟩ := hW
  rw [Tryz.params6] at hA hval
  obtain ⟨v0, vs0, d0, ds0, p0, q0, hargs, rfl, rfl, h0, r0⟩ := trodAll_cons hA
  obtain ⟨v1, vs1, d1, ds1, p1, q1, rfl, rfl, rfl, h1, r1⟩ := trodAll_cons r0
  obtain ⟨v2, vs2, d2, ds2, p2, q2, rfl, rfl, rfl, h2, r2⟩ := trodAll_cons r1
  obtain ⟨rfl, rfl, rfl⟩ := trodAll_nil r2
  obtain rfl : args = #[v0, v1, v2] := by cases args; simp_all
  obtain ⟨cs0, rfl, _⟩ := okWide_struct underlying26 (hval 0 26 v0 rfl rfl)
  obtain ⟨m0, h0⟩ := h0
  obtain ⟨x0_0, x0_1, x0_2, x0_3, x0_4, x0_5, x0_6, x0_7, x0_8, z0, y0_0, y0_1, y0_2, y0_3, y0_4, y0_5, y0_6⟩ := Q8 h0
  obtain rfl : cs0 = [Value.int .i64 x0_0, Value.string (bs x0_1), Value.int .i64 x0_2, Value.int .i64 x0_3, Value.int .i64 x0_4, Value.int .i64 x0_5, Value.slice x0_6 x0_8.length x0_7].toArray := by rw [← z0]; simp [Value.cells]
  obtain ⟨x1, rfl, _, _, w1⟩ := open_int underlying3 (hval 1 3 v1 rfl rfl) h1
  obtain ⟨x2, rfl, _, _, w2⟩ := open_int underlying3 (hval 2 3 v2 rfl rfl) h2
  have hwalk := Tv W (s := (Session.mk x0_0 x0_1 (Handle.mk x0_2 x0_3) x0_4 x0_5 x0_8)) (stream := x1) (other := x2) y0_6 (y0_5) hG hE
  rw [show (Gy (Session.mk x0_0 x0_1 (Handle.mk x0_2 x0_3) x0_4 x0_5 x0_8) x1 x2) = true from (Ru _ _ _)] at hwalk
  refine hwalk.mono fun e W' ⟨he, hE⟩ => ⟨_, he, ?_⟩
  exact wW Q5 z6 rfl underlying4 rfl (fun ds hds => by
    match ds, hds with
    | [a0, a1, a2], _ => exact ⟨rfl, rfl, rfl⟩) hW' hE

theorem Ox (os : Os) : laidMetH Tryz.prog Rows.sessionForgetsRow.laid ((Xc os).forCall (fun _ _ => 0) ⟨#[], #[.agg #[.int .i64 0, .string ⟨#[]⟩, .int .i64 0, .int .i64 0, .int .i64 0, .int .i64 0, .slice none 0 0], .int .i64 0, .int .i64 0], []⟩).memory :=
  laidMetH_of_parts (by rw [show (Rows.sessionForgetsRow.laid.filter fun x => x.2.handleName?.isNone) = qE by kernel_rfl]; exact gG (zW os) _ z6 z6) z6
theorem Rv (os : Os) {H : Type} (enc : TypeId × Value → H) : ∃ ds, ∃ places, DataW.whole enc Tryz.prog ((Xc os).forCall (fun _ _ => 0) ⟨#[], #[.agg #[.int .i64 0, .string ⟨#[]⟩, .int .i64 0, .int .i64 0, .int .i64 0, .int .i64 0, .slice none 0 0], .int .i64 0, .int .i64 0], []⟩).memory Tryz.f6.params.toList Rows.sessionForgetsSpec.vars false (#[.agg #[.int .i64 0, .string ⟨#[]⟩, .int .i64 0, .int .i64 0, .int .i64 0, .int .i64 0, .slice none 0 0], .int .i64 0, .int .i64 0] : Array Value).toList 8 = some (ds, [], places) :=
  ⟨[.agg [.lit (.int .i64 0), .lit (.string []), .agg [.lit (.int .i64 0), .lit (.int .i64 0)], .lit (.int .i64 0), .lit (.int .i64 0), .nil], .lit (.int .i64 0), .lit (.int .i64 0)], [], by kernel_rfl⟩
set_option maxRecDepth 100000 in
theorem Qo (os : Os) (started : os.Started) (H : Type) (enc : TypeId × Value → H) (F : Stop.Interp) :
    ReturnsInHanded {} Tryz.checked os 6 .any ((OpenSpec.ofChange Rows.sessionForgetsSpec).preRow enc Tryz.prog Tryz.f6 Rows.sessionForgetsRow.domain false Rows.sessionForgetsRow.laid) (((OpenSpec.ofChange Rows.sessionForgetsSpec).at F).post enc Tryz.prog Tryz.f6 false true false false) := by
  obtain ⟨ds0, places, hx⟩ := Rv os enc
  refine returnsInHanded_of_row (C := Tryz.checked) (s := OpenSpec.ofChange Rows.sessionForgetsSpec) AU8 started z6 func6
    (witness_row_at (enc := enc) (C := Tryz.checked) false (Xc os) #[.agg #[.int .i64 0, .string ⟨#[]⟩, .int .i64 0, .int .i64 0, .int .i64 0, .int .i64 0, .slice none 0 0], .int .i64 0, .int .i64 0] rfl z6 z6 z6
      (OpenSpec.preRow_of_cond 8 hx z6 (fun k hk => by cases hk) z6 (Ox os))) ?_
  intro W base args ds gs before hval hW _ _ _ hL hsh _
  exact Ow H enc W base args ds gs before hval hW (AS4 hL hsh) (AS5 hL)
theorem Su : Rows.SessionForgetsSaid :=
  OpenClaim.holds_of_cond 6 Tryz.f6 rfl rfl rfl rfl rfl rfl rfl ⟨rfl, rfl, rfl, rfl, rfl⟩ rfl rfl rfl rfl rfl z6 func6 (by unfold joinedFacts; rw [jf1, jf2, jf3, jf4, jf5, jf6, jf7, jg1, jg2, jg3, jg4]; kernel_rfl)
    (of_decide_eq_true z6) (by unfold Func.isWrapper; first | (rw [if_pos (by decide +kernel)]; kernel_rfl) | (rw [if_neg (by decide +kernel)]; exact ⟨rfl, rfl⟩))
    (fun os started H enc _ F => by rw [OpenClaim.pre_eq_preRow]; exact Qo os started H enc F)
theorem Rw (f : FuncId) (fn : Func) (hf : Tryz.pinned.checked.prog.funcNamed "wicketgate/wicketgatelaw18.SessionForgets" = some f) (hfn : Tryz.pinned.checked.prog.funcs[f]? = some fn) :
    true = Tryz.pinned.checked.prog.looks [] ∧ ∀ (j : Nat) t, fn.params[j]? = some t → Tryz.pinned.checked.prog.wantsStandIn t = false := by
  obtain rfl : f = 6 := Option.some.inj ((show Tryz.prog.funcNamed "wicketgate/wicketgatelaw18.SessionForgets" = some 6 by kernel_rfl).symm.trans hf) |>.symm
  obtain rfl : fn = Tryz.f6 := (Option.some.inj (func6.symm.trans hfn)).symm
  refine ⟨by kernel_rfl, fun j t ht => ?_⟩
  rw [Tryz.params6] at ht
  have hm := Array.mem_of_getElem? ht
  have hall : (#[26, 3, 3] : Array TypeId).toList.all (fun t => !Tryz.prog.wantsStandIn t) = true := by kernel_rfl
  have := List.all_eq_true.1 hall t (by simpa using hm)
  have h9 : Tryz.prog.wantsStandIn t = false := by simpa using this
  exact h9
theorem sessionForgets_card : Rows.SessionForgetsCardSaid :=
  Claim7.holds_tied_plain_at .later [] _ _ _ _ Su (fun _ h => by cases h) z6 (fun _ h => by cases h) sessionForgets_row_tie rfl ⟨rfl, rfl⟩ z6 rfl Rw z6

end Go.Proofs.YtdnjanhdnibkfaaGreatDoor

