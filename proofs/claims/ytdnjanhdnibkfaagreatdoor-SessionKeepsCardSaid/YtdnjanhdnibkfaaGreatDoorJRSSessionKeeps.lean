/- The law of this text is proved here. Its conditions: none. -/
import Derived.Test.YtdnjanhdnibkfaaGreatDoorA0
import Derived.Test.YtdnjanhdnibkfaaGreatDoorCards
import Derived.Test.YtdnjanhdnibkfaaGreatDoorTie
import Derived.Test.YtdnjanhdnibkfaaGreatDoorA5
import Derived.Test.YtdnjanhdnibkfaaGreatDoorA2
import Derived.Test.YtdnjanhdnibkfaaGreatDoorA1
import Derived.Test.YtdnjanhdnibkfaaGreatDoorA4
import Derived.Test.YtdnjanhdnibkfaaGreatDoorA6
import Derived.Test.YtdnjanhdnibkfaaGreatDoorA8
namespace Go.Proofs.YtdnjanhdnibkfaaGreatDoor
open Go.Proofs.Tryz
open Go.Proofs Go.Proofs.YtdnjanhdnibkfaaGreatDoor.Jd
open Go.ChangeShapes Go.WideShapes Go.ChangeAt Go.RowKit Go.ChangeMaps
set_option maxRecDepth 100000
set_option linter.unusedVariables false
set_option linter.unusedSimpArgs false
theorem Wh {W : World} (h : laidMetH Tryz.prog Rows.sessionKeepsRow.laid W) (hsh : W.ShapedOpen Tryz.prog) : Gl W := by
  have h2 : laidMet Tryz.prog Le W ∧ handlesMet Tryz.prog [("errors.errorType", Rows.laid_errors_errorType)] W := h
  have h := h2.1
  exact ⟨Tryz.laysM145.s1_3 W hsh, Lib.tabIs_of_head (rest := [("wicketgate/ports.errPorts", Rows.laid_wicketgate_ports_errPorts), ("wicketgate/ports.errTarget", Rows.laid_wicketgate_ports_errTarget), ("wicketgate/sha.constants", Rows.laid_wicketgate_sha_constants), ("wicketgate/mac.errKey", Rows.laid_wicketgate_mac_errKey), ("wicketgate/mac.errArg", Rows.laid_wicketgate_mac_errArg), ("wicketgate/wire.errArg", Rows.laid_wicketgate_wire_errArg), ("wicketgate/wire.errMore", Rows.laid_wicketgate_wire_errMore), ("wicketgate/wire.errKind", Rows.laid_wicketgate_wire_errKind), ("wicketgate/wire.errLong", Rows.laid_wicketgate_wire_errLong), ("wicketgate/wire.errFrame", Rows.laid_wicketgate_wire_errFrame), ("wicketgate/acl.errRules", Rows.laid_wicketgate_acl_errRules), ("wicketgate/acl.errRule", Rows.laid_wicketgate_acl_errRule), ("wicketgate/acl.errPlace", Rows.laid_wicketgate_acl_errPlace), ("wicketgate/acl.errTarget", Rows.laid_wicketgate_acl_errTarget), ("wicketgate/roles.verbs", Rows.laid_wicketgate_roles_verbs), ("wicketgate/session.errSession", Rows.laid_wicketgate_session_errSession), ("wicketgate/session.errFrame", Rows.laid_wicketgate_session_errFrame), ("wicketgate/session.errStream", Rows.laid_wicketgate_session_errStream)]) (g := 20) z2 z2 underlying371 underlying329 z2 z2 (Ad (Ad h)), En (g := 15) z2 (Jl (l := [(1, [99, 114, 101, 97, 116, 101], 4), (2, [115, 117, 115, 112, 101, 110, 100], 2), (3, [114, 101, 115, 117, 109, 101], 2), (4, [100, 114, 97, 105, 110], 2), (5, [100, 101, 108, 101, 116, 101], 4), (6, [114, 111, 116, 97, 116, 101], 4), (7, [97, 99, 108], 4), (8, [107, 105, 108, 108], 2), (9, [108, 105, 115, 116], 1), (10, [115, 104, 111, 119], 1)]) (rest := [("wicketgate/session.errSession", Rows.laid_wicketgate_session_errSession), ("wicketgate/session.errFrame", Rows.laid_wicketgate_session_errFrame), ("wicketgate/session.errStream", Rows.laid_wicketgate_session_errStream)]) (g := 15) z2 z2 underlying358 underlying288 rfl z2 z2 rfl rfl rfl underlying3 underlying9 underlying3 z2 z2 z2 z2 (Ad (Ad (Ad (Ad (Ad (Ad (Ad (Ad (Ad (Ad (Ad (Ad (Ad (Ad (Ad (Ad (Ad h)))))))))))))))))), En (g := 11) z2 (show Lib.TabIs Tryz.prog W "wicketgate/sha.constants" .u32 Ma from Lib.tabIs_of_head (rest := [("wicketgate/mac.errKey", Rows.laid_wicketgate_mac_errKey), ("wicketgate/mac.errArg", Rows.laid_wicketgate_mac_errArg), ("wicketgate/wire.errArg", Rows.laid_wicketgate_wire_errArg), ("wicketgate/wire.errMore", Rows.laid_wicketgate_wire_errMore), ("wicketgate/wire.errKind", Rows.laid_wicketgate_wire_errKind), ("wicketgate/wire.errLong", Rows.laid_wicketgate_wire_errLong), ("wicketgate/wire.errFrame", Rows.laid_wicketgate_wire_errFrame), ("wicketgate/acl.errRules", Rows.laid_wicketgate_acl_errRules), ("wicketgate/acl.errRule", Rows.laid_wicketgate_acl_errRule), ("wicketgate/acl.errPlace", Rows.laid_wicketgate_acl_errPlace), ("wicketgate/acl.errTarget", Rows.laid_wicketgate_acl_errTarget), ("wicketgate/roles.verbs", Rows.laid_wicketgate_roles_verbs), ("wicketgate/session.errSession", Rows.laid_wicketgate_session_errSession), ("wicketgate/session.errFrame", Rows.laid_wicketgate_session_errFrame), ("wicketgate/session.errStream", Rows.laid_wicketgate_session_errStream)]) (g := 11) z2 z2 underlying247 underlying163 z2 z2 (Ad (Ad (Ad (Ad (Ad h)))))), Ow h2.2 List.mem_cons_self rfl rfl z2 z2 (N := 430) z2 z2 z2⟩
theorem jg1 : Tryz.pinned.checked.prog.inPlace 8 = Rows.sessionKeepsRow.inPlace := by kernel_rfl
theorem jg2 : Tryz.pinned.checked.prog.unfollowed 8 = Rows.sessionKeepsRow.unfollowed := by kernel_rfl
theorem jg3 : Tryz.pinned.checked.prog.recurses 8 = Rows.sessionKeepsRow.recurses := by kernel_rfl
theorem jg4 : Tryz.pinned.checked.prog.varsNamed 8 = Rows.sessionKeepsRow.named := by kernel_rfl
theorem Wi {W : World} (h : laidMetH Tryz.prog Rows.sessionKeepsRow.laid W) : ∃ ea0 ea1 ea2 ea3 ea4 ea5 ea6 ea7 ea8 ea9 ea10 ea11 ea12 ea13 ea14 ea15 : Addr, Er W ea0 ea1 ea2 ea3 ea4 ea5 ea6 ea7 ea8 ea9 ea10 ea11 ea12 ea13 ea14 ea15 := by
  have h2 : laidMet Tryz.prog Le W ∧ handlesMet Tryz.prog [("errors.errorType", Rows.laid_errors_errorType)] W := h
  have h := h2.1
  obtain ⟨ea0, v0, b0⟩ := Az (laidMet.tail (laidMet.tail (laidMet.tail (laidMet.tail (laidMet.tail (laidMet.tail (laidMet.tail (laidMet.tail (laidMet.tail (laidMet.tail (laidMet.tail (laidMet.tail (laidMet.tail (laidMet.tail (laidMet.tail (laidMet.tail (laidMet.tail (laidMet.tail h)))))))))))))))))) Ud Ue underlying93 Au underlying400 underlying419 rfl rfl underlying9 Bg Bh
  obtain ⟨ea1, v1, b1⟩ := Az (laidMet.tail (laidMet.tail (laidMet.tail (laidMet.tail (laidMet.tail (laidMet.tail (laidMet.tail (laidMet.tail (laidMet.tail (laidMet.tail (laidMet.tail (laidMet.tail (laidMet.tail (laidMet.tail (laidMet.tail (laidMet.tail (laidMet.tail (laidMet.tail (laidMet.tail h))))))))))))))))))) Uf Ug underlying93 Au underlying400 underlying419 rfl rfl underlying9 Bg Bh
  obtain ⟨ea2, v2, b2⟩ := Az (laidMet.tail (laidMet.tail (laidMet.tail (laidMet.tail (laidMet.tail (laidMet.tail (laidMet.tail h))))))) gB gC underlying93 Au underlying400 underlying419 rfl rfl underlying9 Bg Bh
  obtain ⟨ea3, v3, b3⟩ := Az (laidMet.tail (laidMet.tail (laidMet.tail (laidMet.tail h)))) gE gF underlying93 Au underlying400 underlying419 rfl rfl underlying9 Bg Bh
  obtain ⟨ea4, v4, b4⟩ := Az (laidMet.tail (laidMet.tail (laidMet.tail (laidMet.tail (laidMet.tail (laidMet.tail (laidMet.tail (laidMet.tail (laidMet.tail (laidMet.tail (laidMet.tail (laidMet.tail (laidMet.tail h))))))))))))) Oj Ok underlying93 Au underlying400 underlying419 rfl rfl underlying9 Bg Bh
  obtain ⟨ea5, v5, b5⟩ := Az (laidMet.tail (laidMet.tail (laidMet.tail (laidMet.tail (laidMet.tail (laidMet.tail (laidMet.tail (laidMet.tail (laidMet.tail (laidMet.tail (laidMet.tail (laidMet.tail (laidMet.tail (laidMet.tail (laidMet.tail (laidMet.tail (laidMet.tail (laidMet.tail (laidMet.tail (laidMet.tail h)))))))))))))))))))) Uh Ui underlying93 Au underlying400 underlying419 rfl rfl underlying9 Bg Bh
  obtain ⟨ea6, v6, b6⟩ := Az (laidMet.tail (laidMet.tail (laidMet.tail (laidMet.tail (laidMet.tail (laidMet.tail h)))))) gG gH underlying93 Au underlying400 underlying419 rfl rfl underlying9 Bg Bh
  obtain ⟨ea7, v7, b7⟩ := Az (laidMet.tail (laidMet.tail (laidMet.tail h))) gI gJ underlying93 Au underlying400 underlying419 rfl rfl underlying9 Bg Bh
  obtain ⟨ea8, v8, b8⟩ := Az (laidMet.tail (laidMet.tail (laidMet.tail (laidMet.tail (laidMet.tail (laidMet.tail (laidMet.tail (laidMet.tail (laidMet.tail (laidMet.tail (laidMet.tail (laidMet.tail (laidMet.tail (laidMet.tail h)))))))))))))) Ol Om underlying93 Au underlying400 underlying419 rfl rfl underlying9 Bg Bh
  obtain ⟨ea9, v9, b9⟩ := Az (laidMet.tail (laidMet.tail (laidMet.tail (laidMet.tail (laidMet.tail (laidMet.tail (laidMet.tail (laidMet.tail (laidMet.tail (laidMet.tail (laidMet.tail (laidMet.tail (laidMet.tail (laidMet.tail (laidMet.tail h))))))))))))))) Oo Oq underlying93 Au underlying400 underlying419 rfl rfl underlying9 Bg Bh
  obtain ⟨ea10, v10, b10⟩ := Az (laidMet.tail (laidMet.tail (laidMet.tail (laidMet.tail (laidMet.tail (laidMet.tail (laidMet.tail (laidMet.tail (laidMet.tail (laidMet.tail (laidMet.tail (laidMet.tail (laidMet.tail (laidMet.tail (laidMet.tail (laidMet.tail h)))))))))))))))) Iq Ir underlying93 Au underlying400 underlying419 rfl rfl underlying9 Bg Bh
  obtain ⟨ea11, v11, b11⟩ := Az (laidMet.tail (laidMet.tail (laidMet.tail (laidMet.tail (laidMet.tail (laidMet.tail (laidMet.tail (laidMet.tail h)))))))) nS nT underlying93 Au underlying400 underlying419 rfl rfl underlying9 Bg Bh
  obtain ⟨ea12, v12, b12⟩ := Az (laidMet.tail (laidMet.tail (laidMet.tail (laidMet.tail (laidMet.tail (laidMet.tail (laidMet.tail (laidMet.tail (laidMet.tail h))))))))) nU nV underlying93 Au underlying400 underlying419 rfl rfl underlying9 Bg Bh
  obtain ⟨ea13, v13, b13⟩ := Az (laidMet.tail (laidMet.tail (laidMet.tail (laidMet.tail (laidMet.tail (laidMet.tail (laidMet.tail (laidMet.tail (laidMet.tail (laidMet.tail h)))))))))) nW nX underlying93 Au underlying400 underlying419 rfl rfl underlying9 Bg Bh
  obtain ⟨ea14, v14, b14⟩ := Az (laidMet.tail (laidMet.tail (laidMet.tail (laidMet.tail (laidMet.tail (laidMet.tail (laidMet.tail (laidMet.tail (laidMet.tail (laidMet.tail (laidMet.tail h))))))))))) nY nZ underlying93 Au underlying400 underlying419 rfl rfl underlying9 Bg Bh
  obtain ⟨ea15, v15, b15⟩ := Az (laidMet.tail (laidMet.tail (laidMet.tail (laidMet.tail (laidMet.tail (laidMet.tail (laidMet.tail (laidMet.tail (laidMet.tail (laidMet.tail (laidMet.tail (laidMet.tail h)))))))))))) oA oB underlying93 Au underlying400 underlying419 rfl rfl underlying9 Bg Bh
  have n0_1 : ea0 ≠ ea1 := Bv (laidMet.tail (laidMet.tail (laidMet.tail (laidMet.tail (laidMet.tail (laidMet.tail (laidMet.tail (laidMet.tail (laidMet.tail (laidMet.tail (laidMet.tail (laidMet.tail (laidMet.tail (laidMet.tail (laidMet.tail (laidMet.tail (laidMet.tail (laidMet.tail h)))))))))))))))))) Ud Ue Uf Ug underlying93 Au underlying400 underlying419 rfl rfl underlying9 Bg Bh v0 v1
  have n0_5 : ea0 ≠ ea5 := Bv (Jd.Bx (laidMet.tail (laidMet.tail (laidMet.tail (laidMet.tail (laidMet.tail (laidMet.tail (laidMet.tail (laidMet.tail (laidMet.tail (laidMet.tail (laidMet.tail (laidMet.tail (laidMet.tail (laidMet.tail (laidMet.tail (laidMet.tail (laidMet.tail (laidMet.tail h))))))))))))))))))) Ud Ue Uh Ui underlying93 Au underlying400 underlying419 rfl rfl underlying9 Bg Bh v0 v5
  have n1_5 : ea1 ≠ ea5 := Bv (laidMet.tail (laidMet.tail (laidMet.tail (laidMet.tail (laidMet.tail (laidMet.tail (laidMet.tail (laidMet.tail (laidMet.tail (laidMet.tail (laidMet.tail (laidMet.tail (laidMet.tail (laidMet.tail (laidMet.tail (laidMet.tail (laidMet.tail (laidMet.tail (laidMet.tail h))))))))))))))))))) Uf Ug Uh Ui underlying93 Au underlying400 underlying419 rfl rfl underlying9 Bg Bh v1 v5
  have n4_8 : ea4 ≠ ea8 := Bv (laidMet.tail (laidMet.tail (laidMet.tail (laidMet.tail (laidMet.tail (laidMet.tail (laidMet.tail (laidMet.tail (laidMet.tail (laidMet.tail (laidMet.tail (laidMet.tail (laidMet.tail h))))))))))))) Oj Ok Ol Om underlying93 Au underlying400 underlying419 rfl rfl underlying9 Bg Bh v4 v8
  have n4_9 : ea4 ≠ ea9 := Bv (Jd.Bx (laidMet.tail (laidMet.tail (laidMet.tail (laidMet.tail (laidMet.tail (laidMet.tail (laidMet.tail (laidMet.tail (laidMet.tail (laidMet.tail (laidMet.tail (laidMet.tail (laidMet.tail h)))))))))))))) Oj Ok Oo Oq underlying93 Au underlying400 underlying419 rfl rfl underlying9 Bg Bh v4 v9
  have n4_10 : ea4 ≠ ea10 := Bv (Jd.Bx (Jd.Bx (laidMet.tail (laidMet.tail (laidMet.tail (laidMet.tail (laidMet.tail (laidMet.tail (laidMet.tail (laidMet.tail (laidMet.tail (laidMet.tail (laidMet.tail (laidMet.tail (laidMet.tail h))))))))))))))) Oj Ok Iq Ir underlying93 Au underlying400 underlying419 rfl rfl underlying9 Bg Bh v4 v10
  have n6_2 : ea6 ≠ ea2 := Bv (laidMet.tail (laidMet.tail (laidMet.tail (laidMet.tail (laidMet.tail (laidMet.tail h)))))) gG gH gB gC underlying93 Au underlying400 underlying419 rfl rfl underlying9 Bg Bh v6 v2
  have n7_3 : ea7 ≠ ea3 := Bv (laidMet.tail (laidMet.tail (laidMet.tail h))) gI gJ gE gF underlying93 Au underlying400 underlying419 rfl rfl underlying9 Bg Bh v7 v3
  have n8_9 : ea8 ≠ ea9 := Bv (laidMet.tail (laidMet.tail (laidMet.tail (laidMet.tail (laidMet.tail (laidMet.tail (laidMet.tail (laidMet.tail (laidMet.tail (laidMet.tail (laidMet.tail (laidMet.tail (laidMet.tail (laidMet.tail h)))))))))))))) Ol Om Oo Oq underlying93 Au underlying400 underlying419 rfl rfl underlying9 Bg Bh v8 v9
  have n8_10 : ea8 ≠ ea10 := Bv (Jd.Bx (laidMet.tail (laidMet.tail (laidMet.tail (laidMet.tail (laidMet.tail (laidMet.tail (laidMet.tail (laidMet.tail (laidMet.tail (laidMet.tail (laidMet.tail (laidMet.tail (laidMet.tail (laidMet.tail h))))))))))))))) Ol Om Iq Ir underlying93 Au underlying400 underlying419 rfl rfl underlying9 Bg Bh v8 v10
  have n9_10 : ea9 ≠ ea10 := Bv (laidMet.tail (laidMet.tail (laidMet.tail (laidMet.tail (laidMet.tail (laidMet.tail (laidMet.tail (laidMet.tail (laidMet.tail (laidMet.tail (laidMet.tail (laidMet.tail (laidMet.tail (laidMet.tail (laidMet.tail h))))))))))))))) Oo Oq Iq Ir underlying93 Au underlying400 underlying419 rfl rfl underlying9 Bg Bh v9 v10
  exact ⟨ea0, ea1, ea2, ea3, ea4, ea5, ea6, ea7, ea8, ea9, ea10, ea11, ea12, ea13, ea14, ea15, ⟨v0, b0, v1, b1, v2, b2, v3, b3, v4, b4, v5, b5, v6, b6, v7, b7, v8, b8, v9, b9, v10, b10, v11, b11, v12, b12, v13, b13, v14, b14, v15, b15, n0_1.symm, n6_2.symm, n7_3.symm, n0_5.symm, n1_5.symm, n4_8.symm, n4_9.symm, n8_9.symm, n4_10.symm, n8_10.symm, n9_10.symm⟩⟩
theorem Uj (H : Type) (enc : TypeId × Value → H) (W : World) (base : Nat) (args : Array Value) (ds gs : List (DataW H)) (before : List MemPlace)
    (hval : ∀ (j : Nat) t v, Tryz.f8.params[j]? = some t → args[j]? = some v → Value.okWide Tryz.prog W .any base t v)
    (hW : DataW.Whole enc Tryz.prog Tryz.f8.params.toList Rows.sessionKeepsSpec.vars false W args.toList ds gs before) (hG : Gl W) (hE : ∃ ea0 ea1 ea2 ea3 ea4 ea5 ea6 ea7 ea8 ea9 ea10 ea11 ea12 ea13 ea14 ea15 : Addr, Er W ea0 ea1 ea2 ea3 ea4 ea5 ea6 ea7 ea8 ea9 ea10 ea11 ea12 ea13 ea14 ea15) :
    Calls Tryz.prog 8 args W fun e W' => ∃ v, e = .returned v ∧ Rows.sessionKeepsSpec.post enc Tryz.prog Tryz.f8 false true false false W args v W' := by
  obtain ⟨ea0, ea1, ea2, ea3, ea4, ea5, ea6, ea7, ea8, ea9, ea10, ea11, ea12, ea13, ea14, ea15, hE⟩ := hE
  have hW' := hW
  obtain ⟨p, q, hA, hV, rfl, hfz, oD⟩ := hW
  rw [Tryz.params8] at hA hval
  obtain ⟨v0, vs0, d0, ds0, p0, q0, hargs, rfl, rfl, h0, r0⟩ := trodAll_cons hA
  obtain ⟨v1, vs1, d1, ds1, p1, q1, rfl, rfl, rfl, h1, r1⟩ := trodAll_cons r0
  obtain ⟨v2, vs2, d2, ds2, p2, q2, rfl, rfl, rfl, h2, r2⟩ := trodAll_cons r1
  obtain ⟨v3, vs3, d3, ds3, p3, q3, rfl, rfl, rfl, h3, r3⟩ := trodAll_cons r2
  obtain ⟨rfl, rfl, rfl⟩ := trodAll_nil r3
  obtain rfl : args = #[v0, v1, v2, v3] := by cases args; simp_all
  obtain ⟨cs0, rfl, _⟩ := okWide_struct underlying26 (hval 0 26 v0 rfl rfl)
  obtain ⟨m0, h0⟩ := h0
  obtain ⟨x0_0, x0_1, x0_2, x0_3, x0_4, x0_5, x0_6, x0_7, x0_8, zz0, y0_0, y0_1, y0_2, y0_3, y0_4, y0_5, y0_6⟩ := Tj h0
  obtain rfl : cs0 = [Value.int .i64 x0_0, Value.string (bs x0_1), Value.int .i64 x0_2, Value.int .i64 x0_3, Value.int .i64 x0_4, Value.int .i64 x0_5, Value.slice x0_6 x0_8.length x0_7].toArray := by rw [← zz0]; simp [Value.cells]
  obtain ⟨cs1, rfl, _⟩ := okWide_struct underlying28 (hval 1 28 v1 rfl rfl)
  obtain ⟨m1, h1⟩ := h1
  obtain ⟨x1_0, x1_1, x1_2, zz1, y1_0, y1_1⟩ := iB h1
  obtain rfl : cs1 = [Value.int .i64 x1_0, Value.int .i64 x1_1, Value.string (bs x1_2)].toArray := by rw [← zz1]; simp [Value.cells]
  obtain ⟨cs2, rfl, _⟩ := okWide_struct underlying34 (hval 2 34 v2 rfl rfl)
  obtain ⟨m2, h2⟩ := h2
  obtain ⟨x2_0, x2_1, x2_2, x2_3, x2_4, x2_5, x2_6, x2_7, x2_8, x2_9, x2_10, x2_11, x2_12, x2_13, zz2, y2_0, y2_1, y2_2, y2_3, y2_4, y2_5, y2_6, y2_7, y2_8⟩ := cI h2
  obtain rfl : cs2 = [Value.slice x2_0 x2_2.length x2_1, Value.slice x2_3 x2_5.length x2_4, Value.slice x2_6 x2_8.length x2_7, Value.slice x2_9 x2_11.length x2_10, Value.int .i64 x2_13].toArray := by rw [← zz2]; simp [Value.cells]
  obtain ⟨x3, rfl, _, _, w3⟩ := open_int underlying3 (hval 3 3 v3 rfl rfl) h3
  have hwalk := eA W (s := (Session.mk x0_0 x0_1 (Handle.mk x0_2 x0_3) x0_4 x0_5 x0_8)) (f := (Go.Proofs.YtdnjanhdnibkfaaGreatDoor.Jd.Frame.mk x1_0 x1_1 x1_2)) (r := (Bk.mk (Slots.mk x2_2 x2_5 x2_8) x2_11 x2_13)) (now := x3) y0_6 (y0_5) y2_1 (y2_0) y2_3 (y2_2) y2_5 (y2_4) y2_7 (y2_6) hG hE
  rw [show (Jy (Session.mk x0_0 x0_1 (Handle.mk x0_2 x0_3) x0_4 x0_5 x0_8) (Go.Proofs.YtdnjanhdnibkfaaGreatDoor.Jd.Frame.mk x1_0 x1_1 x1_2) (Bk.mk (Slots.mk x2_2 x2_5 x2_8) x2_11 x2_13) x3) = true from (Zj _ _ _ _)] at hwalk
  refine hwalk.mono fun e W' ⟨he, hE⟩ => ⟨_, he, ?_⟩
  exact Rp Wy z2 rfl underlying4 rfl (fun ds hds => by
    match ds, hds with
    | [a0, a1, a2, a3], _ => exact ⟨rfl, rfl, rfl⟩) hW' hE

theorem Uk (os : Os) : laidMetH Tryz.prog Rows.sessionKeepsRow.laid ((Ew os).forCall (fun _ _ => 0) ⟨#[], #[.agg #[.int .i64 0, .string ⟨#[]⟩, .int .i64 0, .int .i64 0, .int .i64 0, .int .i64 0, .slice none 0 0], .agg #[.int .i64 0, .int .i64 0, .string ⟨#[]⟩], .agg #[.slice none 0 0, .slice none 0 0, .slice none 0 0, .slice none 0 0, .int .i64 0], .int .i64 0], []⟩).memory :=
  laidMetH_of_parts (by rw [show (Rows.sessionKeepsRow.laid.filter fun x => x.2.handleName?.isNone) = Le by kernel_rfl]; exact Jk (Zh os) _ z2 z2) z2
theorem Zk (os : Os) {H : Type} (enc : TypeId × Value → H) : ∃ ds, ∃ places, DataW.whole enc Tryz.prog ((Ew os).forCall (fun _ _ => 0) ⟨#[], #[.agg #[.int .i64 0, .string ⟨#[]⟩, .int .i64 0, .int .i64 0, .int .i64 0, .int .i64 0, .slice none 0 0], .agg #[.int .i64 0, .int .i64 0, .string ⟨#[]⟩], .agg #[.slice none 0 0, .slice none 0 0, .slice none 0 0, .slice none 0 0, .int .i64 0], .int .i64 0], []⟩).memory Tryz.f8.params.toList Rows.sessionKeepsSpec.vars false (#[.agg #[.int .i64 0, .string ⟨#[]⟩, .int .i64 0, .int .i64 0, .int .i64 0, .int .i64 0, .slice none 0 0], .agg #[.int .i64 0, .int .i64 0, .string ⟨#[]⟩], .agg #[.slice none 0 0, .slice none 0 0, .slice none 0 0, .slice none 0 0, .int .i64 0], .int .i64 0] : Array Value).toList 8 = some (ds, [], places) :=
  ⟨[.agg [.lit (.int .i64 0), .lit (.string []), .agg [.lit (.int .i64 0), .lit (.int .i64 0)], .lit (.int .i64 0), .lit (.int .i64 0), .nil], .agg [.lit (.int .i64 0), .lit (.int .i64 0), .lit (.string [])], .agg [.agg [.nil, .nil, .nil], .nil, .lit (.int .i64 0)], .lit (.int .i64 0)], [], by kernel_rfl⟩
set_option maxRecDepth 100000 in
theorem Xn (os : Os) (started : os.Started) (H : Type) (enc : TypeId × Value → H) (F : Stop.Interp) :
    ReturnsInHanded {} Tryz.checked os 8 .any ((OpenSpec.ofChange Rows.sessionKeepsSpec).preRow enc Tryz.prog Tryz.f8 Rows.sessionKeepsRow.domain false Rows.sessionKeepsRow.laid) (((OpenSpec.ofChange Rows.sessionKeepsSpec).at F).post enc Tryz.prog Tryz.f8 false true false false) := by
  obtain ⟨ds0, places, hx⟩ := Zk os enc
  refine returnsInHanded_of_row (C := Tryz.checked) (s := OpenSpec.ofChange Rows.sessionKeepsSpec) I0 started z2 func8
    (witness_row_at (enc := enc) (C := Tryz.checked) false (Ew os) #[.agg #[.int .i64 0, .string ⟨#[]⟩, .int .i64 0, .int .i64 0, .int .i64 0, .int .i64 0, .slice none 0 0], .agg #[.int .i64 0, .int .i64 0, .string ⟨#[]⟩], .agg #[.slice none 0 0, .slice none 0 0, .slice none 0 0, .slice none 0 0, .int .i64 0], .int .i64 0] rfl z2 z2 z2
      (OpenSpec.preRow_of_cond 8 hx z2 (fun k hk => by cases hk) z2 (Uk os))) ?_
  intro W base args ds gs before hval hW _ _ _ hL hsh _
  exact Uj H enc W base args ds gs before hval hW (Wh hL hsh) (Wi hL)
theorem cK : Rows.SessionKeepsSaid :=
  OpenClaim.holds_of_cond 8 Tryz.f8 rfl rfl rfl rfl rfl rfl rfl ⟨rfl, rfl, rfl, rfl, rfl⟩ rfl rfl rfl rfl rfl z2 func8 z34
    (of_decide_eq_true z2) z24
    (fun os started H enc _ F => by rw [OpenClaim.pre_eq_preRow]; exact Xn os started H enc F)
theorem Zl (f : FuncId) (fn : Func) (hf : Tryz.pinned.checked.prog.funcNamed "wicketgate/wicketgatelaw18.SessionKeeps" = some f) (hfn : Tryz.pinned.checked.prog.funcs[f]? = some fn) :
    true = Tryz.pinned.checked.prog.looks [] ∧ ∀ (j : Nat) t, fn.params[j]? = some t → Tryz.pinned.checked.prog.wantsStandIn t = false := by
  obtain rfl : f = 8 := Option.some.inj ((show Tryz.prog.funcNamed "wicketgate/wicketgatelaw18.SessionKeeps" = some 8 by kernel_rfl).symm.trans hf) |>.symm
  obtain rfl : fn = Tryz.f8 := (Option.some.inj (func8.symm.trans hfn)).symm
  refine ⟨by kernel_rfl, fun j t ht => ?_⟩
  rw [Tryz.params8] at ht
  have hm := Array.mem_of_getElem? ht
  have hall : (#[26, 28, 34, 3] : Array TypeId).toList.all (fun t => !Tryz.prog.wantsStandIn t) = true := by kernel_rfl
  have := List.all_eq_true.1 hall t (by simpa using hm)
  have h9 : Tryz.prog.wantsStandIn t = false := by simpa using this
  exact h9
theorem sessionKeeps_card : Rows.SessionKeepsCardSaid :=
  Claim7.holds_tied_plain_at .later [] _ _ _ _ cK (fun _ h => by cases h) z2 (fun _ h => by cases h) sessionKeeps_row_tie rfl ⟨rfl, rfl⟩ z2 rfl Zl z2

end Go.Proofs.YtdnjanhdnibkfaaGreatDoor

