/- The law of this text is proved here. Its conditions: none. -/
import Derived.Test.YtbooaoddioibeaaGreatDoorS0
import Derived.Test.YtbooaoddioibeaaGreatDoorCards
import Derived.Test.YtbooaoddioibeaaGreatDoorT2
import Derived.Test.YtbooaoddioibeaaGreatDoorT5
import Derived.Test.YtbooaoddioibeaaGreatDoorS1
import Derived.Test.YtbooaoddioibeaaGreatDoorS4
import Derived.Test.YtbooaoddioibeaaGreatDoorS2
import Derived.Test.YtbooaoddioibeaaGreatDoorS3
import Derived.Test.YtbooaoddioibeaaGreatDoorJTL
import Derived.Test.YtbooaoddioibeaaGreatDoorS5
namespace Go.Proofs.YtbooaoddioibeaaGreatDoor
open Go.Proofs.Tryz
open Go.Proofs Go.Proofs.YtbooaoddioibeaaGreatDoor.Jd
open Go.ChangeShapes Go.WideShapes Go.ChangeAt Go.RowKit Go.ChangeMaps
set_option maxRecDepth 100000
set_option linter.unusedVariables false
set_option linter.unusedSimpArgs false
theorem sent_two {P : Program} {n nm : String} {text : List UInt8} {r : List (String × DataW Unit)} {W : World} {g : Nat} {ti tp te ts : TypeId} {ms : Array (String × TypeId)} {f : Field}
    (h : laidMet P ((n, .iface nm (.ptr (.agg [.lit (.string text)]))) :: r) W)
    (hg : P.globalNamed n = some g) (ht : (P.globals[g]?).map (·.type) = some ti) (hi : P.underlying ti = some (.interface ms)) (hrow : ∀ u, P.typeName? 3 u = some nm → u = tp)
    (hp : P.underlying tp = some (.pointer te)) (he : P.underlying te = some (.struct #[f])) (hft : f.type = ts) (hfo : f.offset = 0) (hs : P.underlying ts = some .string) (hc : P.cellsOf te = 1) (hcs : P.cellsOf ts = 1) :
    ∃ b o : Nat, ∃ T f, W.heap[g]? = some (.cells [Value.iface tp (.pointer (some ⟨b, o, none⟩))].toArray T f) := by
  obtain ⟨ps, ⟨g0, t0, cs0, f0, p0, q0, hg0, ht0, hv0, hd0, _, e0⟩, _, hrows⟩ := h
  obtain rfl := Option.some.inj (hg.symm.trans hg0)
  obtain rfl := Option.some.inj (ht.symm.trans ht0)
  subst e0
  obtain ⟨l0⟩ := cs0
  have ok0 : ∀ u v, l0 = [.iface u v] → Value.okWide P W .any 0 u v := fun u v e => by
    subst e
    exact (hrows g 0 (by simp [MemPlace.row])).2 u v (by simpa using World.var?_cell hg0 hv0 0)
  obtain ⟨a0, s0, rfl, hc0, hs0, hz0, rfl⟩ := errorString_of_trod hi hrow hp he hft hfo hs hc hcs hd0 ok0
  obtain ⟨b, o, sp⟩ := a0
  have hsp : sp = none := by
    unfold World.cell? at hc0
    split at hc0
    · split at hc0
      · cases hc0
      · rename_i hn
        cases sp with
        | none => rfl
        | some x => simp at hn
    · cases hc0
  subst hsp
  exact ⟨b, o, M3 hg hv0⟩
theorem gl_of {W : World} (h : laidMetH Tryz.prog Rows.topFlowsRow.laid W) (hsh : W.ShapedOpen Tryz.prog) : GT W := by
  have h2 : laidMet Tryz.prog laidD W ∧ handlesMet Tryz.prog [("errors.errorType", Rows.laid_errors_errorType)] W := h
  have h := h2.1
  obtain ⟨eb0, eo0, v0⟩ := sent_two (zY (zY (zY (zY (zY (zY (zY (zY (zY (zY (zY (zY (zY (zY (zY h))))))))))))))) ern0 ert0 underlying55 er_row underlying728 underlying730 rfl rfl underlying9 er_c1 er_c2
  obtain ⟨eb1, eo1, v1⟩ := sent_two (zY (zY (zY (zY (zY (zY (zY (zY (zY (zY (zY (zY (zY (zY (zY (zY (zY (zY (zY (zY (zY (zY (zY h))))))))))))))))))))))) ern1 ert1 underlying55 er_row underlying728 underlying730 rfl rfl underlying9 er_c1 er_c2
  obtain ⟨eb2, eo2, v2⟩ := sent_two (zY (zY (zY (zY (zY (zY (zY (zY (zY (zY (zY (zY (zY (zY (zY (zY h)))))))))))))))) ern2 ert2 underlying55 er_row underlying728 underlying730 rfl rfl underlying9 er_c1 er_c2
  obtain ⟨eb3, eo3, v3⟩ := sent_two (zY (zY (zY (zY (zY (zY (zY (zY (zY (zY (zY (zY (zY (zY (zY (zY (zY h))))))))))))))))) ern3 ert3 underlying55 er_row underlying728 underlying730 rfl rfl underlying9 er_c1 er_c2
  obtain ⟨eb4, eo4, v4⟩ := sent_two (zY (zY (zY (zY (zY (zY (zY (zY (zY (zY (zY (zY (zY (zY (zY (zY (zY (zY h)))))))))))))))))) ern4 ert4 underlying55 er_row underlying728 underlying730 rfl rfl underlying9 er_c1 er_c2
  obtain ⟨eb5, eo5, v5⟩ := sent_two (zY (zY (zY (zY (zY (zY (zY (zY (zY (zY (zY (zY (zY (zY (zY (zY (zY (zY (zY h))))))))))))))))))) ern5 ert5 underlying55 er_row underlying728 underlying730 rfl rfl underlying9 er_c1 er_c2
  obtain ⟨eb6, eo6, v6⟩ := sent_two (zY (zY (zY (zY (zY (zY (zY (zY (zY (zY (zY (zY (zY (zY (zY (zY (zY (zY (zY (zY h)))))))))))))))))))) ern6 ert6 underlying55 er_row underlying728 underlying730 rfl rfl underlying9 er_c1 er_c2
  obtain ⟨eb7, eo7, v7⟩ := sent_two (zY (zY (zY (zY (zY (zY (zY (zY (zY (zY (zY (zY (zY (zY (zY (zY (zY (zY (zY (zY (zY (zY h)))))))))))))))))))))) ern7 ert7 underlying55 er_row underlying728 underlying730 rfl rfl underlying9 er_c1 er_c2
  obtain ⟨eb8, eo8, v8⟩ := sent_two (zY (zY (zY (zY (zY (zY (zY (zY (zY (zY (zY (zY (zY (zY (zY (zY (zY (zY (zY (zY (zY (zY (zY (zY h)))))))))))))))))))))))) ern8 ert8 underlying55 er_row underlying728 underlying730 rfl rfl underlying9 er_c1 er_c2
  obtain ⟨eb9, eo9, v9⟩ := sent_two (zY (zY (zY (zY (zY (zY (zY (zY (zY (zY (zY (zY (zY (zY (zY (zY (zY (zY (zY (zY (zY h))))))))))))))))))))) ern9 ert9 underlying55 er_row underlying728 underlying730 rfl rfl underlying9 er_c1 er_c2
  obtain ⟨eb10, eo10, v10⟩ := sent_two (zY (zY (zY (zY (zY (zY (zY (zY (zY (zY (zY h))))))))))) ern10 ert10 underlying55 er_row underlying728 underlying730 rfl rfl underlying9 er_c1 er_c2
  obtain ⟨eb11, eo11, v11⟩ := sent_two (zY (zY (zY (zY (zY (zY (zY h))))))) ern11 ert11 underlying55 er_row underlying728 underlying730 rfl rfl underlying9 er_c1 er_c2
  obtain ⟨eb12, eo12, v12⟩ := sent_two (zY (zY (zY (zY (zY (zY (zY (zY (zY (zY h)))))))))) ern12 ert12 underlying55 er_row underlying728 underlying730 rfl rfl underlying9 er_c1 er_c2
  obtain ⟨eb13, eo13, v13⟩ := sent_two (zY (zY (zY (zY (zY (zY h)))))) ern13 ert13 underlying55 er_row underlying728 underlying730 rfl rfl underlying9 er_c1 er_c2
  obtain ⟨eb14, eo14, v14⟩ := sent_two (zY (zY (zY (zY (zY (zY (zY (zY h)))))))) ern14 ert14 underlying55 er_row underlying728 underlying730 rfl rfl underlying9 er_c1 er_c2
  obtain ⟨eb15, eo15, v15⟩ := sent_two (zY (zY (zY (zY (zY (zY (zY (zY (zY h))))))))) ern15 ert15 underlying55 er_row underlying728 underlying730 rfl rfl underlying9 er_c1 er_c2
  obtain ⟨eb16, eo16, v16⟩ := sent_two (zY (zY (zY (zY (zY (zY (zY (zY (zY (zY (zY (zY h)))))))))))) ern16 ert16 underlying55 er_row underlying728 underlying730 rfl rfl underlying9 er_c1 er_c2
  obtain ⟨eb17, eo17, v17⟩ := sent_two (zY (zY (zY (zY (zY (zY (zY (zY (zY (zY (zY (zY (zY h))))))))))))) ern17 ert17 underlying55 er_row underlying728 underlying730 rfl rfl underlying9 er_c1 er_c2
  obtain ⟨eb18, eo18, v18⟩ := sent_two (zY (zY (zY (zY (zY (zY (zY (zY (zY (zY (zY (zY (zY (zY h)))))))))))))) ern18 ert18 underlying55 er_row underlying728 underlying730 rfl rfl underlying9 er_c1 er_c2
  obtain ⟨eb19, eo19, v19⟩ := sent_two h ern19 ert19 underlying55 er_row underlying728 underlying730 rfl rfl underlying9 er_c1 er_c2
  obtain ⟨eb20, eo20, v20⟩ := sent_two (zY h) ern20 ert20 underlying55 er_row underlying728 underlying730 rfl rfl underlying9 er_c1 er_c2
  have vb := M3 (g := 20) (by kernel_rfl) (A6 (l := [(1, [99, 114, 101, 97, 116, 101], 4), (2, [115, 117, 115, 112, 101, 110, 100], 2), (3, [114, 101, 115, 117, 109, 101], 2), (4, [100, 114, 97, 105, 110], 2), (5, [100, 101, 108, 101, 116, 101], 4), (6, [114, 111, 116, 97, 116, 101], 4), (7, [97, 99, 108], 4), (8, [107, 105, 108, 108], 2), (9, [108, 105, 115, 116], 1), (10, [115, 104, 111, 119], 1)]) (rest := [("wicketgate/acl.errRule", Rows.laid_wicketgate_acl_errRule), ("wicketgate/acl.errRules", Rows.laid_wicketgate_acl_errRules), ("wicketgate/acl.errPlace", Rows.laid_wicketgate_acl_errPlace), ("wicketgate/acl.errTarget", Rows.laid_wicketgate_acl_errTarget), ("wicketgate/ports.errPorts", Rows.laid_wicketgate_ports_errPorts), ("wicketgate/ports.errTarget", Rows.laid_wicketgate_ports_errTarget), ("wicketgate/snaps.errPool", Rows.laid_wicketgate_snaps_errPool), ("wicketgate/snaps.errArg", Rows.laid_wicketgate_snaps_errArg), ("wicketgate/snaps.errCursor", Rows.laid_wicketgate_snaps_errCursor), ("wicketgate/wire.errFrame", Rows.laid_wicketgate_wire_errFrame), ("wicketgate/wire.errArg", Rows.laid_wicketgate_wire_errArg), ("wicketgate/wire.errMore", Rows.laid_wicketgate_wire_errMore), ("wicketgate/wire.errKind", Rows.laid_wicketgate_wire_errKind), ("wicketgate/wire.errLong", Rows.laid_wicketgate_wire_errLong), ("wicketgate/session.errSession", Rows.laid_wicketgate_session_errSession), ("wicketgate/session.errStream", Rows.laid_wicketgate_session_errStream), ("wicketgate/session.errFrame", Rows.laid_wicketgate_session_errFrame), ("wicketgate/mac.errArg", Rows.laid_wicketgate_mac_errArg), ("wicketgate/mac.errKey", Rows.laid_wicketgate_mac_errKey), ("wicketgate/sha.constants", Rows.laid_wicketgate_sha_constants)]) (g := 20) (by kernel_rfl) (by kernel_rfl) underlying644 underlying591 rfl (by kernel_rfl) (by kernel_rfl) rfl rfl rfl underlying3 underlying9 underlying3 (by kernel_rfl) (by kernel_rfl) (by kernel_rfl) (by kernel_rfl) (zY (zY (zY (zY (zY h))))))
  have sh := M3 (g := 13) (by kernel_rfl) (show Lib.TabIs Tryz.prog W "wicketgate/sha.constants" .u32 Ln from Lib.tabIs_of_head (rest := []) (g := 13) (by kernel_rfl) (by kernel_rfl) underlying474 underlying330 (by kernel_rfl) (by kernel_rfl) (zY (zY (zY (zY (zY (zY (zY (zY (zY (zY (zY (zY (zY (zY (zY (zY (zY (zY (zY (zY (zY (zY (zY (zY (zY h))))))))))))))))))))))))))
  have pw := M3 (g := 23) (by kernel_rfl) (show Lib.TabIs Tryz.prog W "internal/strconv.uint64pow10" .u64 Lib.pow10Tab from Lib.tabIs_of_head (rest := [("math/bits.deBruijn32tab", Rows.laid_math_bits_deBruijn32tab), ("math/bits.deBruijn64tab", Rows.laid_math_bits_deBruijn64tab), ("wicketgate/roles.verbs", Rows.laid_wicketgate_roles_verbs), ("wicketgate/acl.errRule", Rows.laid_wicketgate_acl_errRule), ("wicketgate/acl.errRules", Rows.laid_wicketgate_acl_errRules), ("wicketgate/acl.errPlace", Rows.laid_wicketgate_acl_errPlace), ("wicketgate/acl.errTarget", Rows.laid_wicketgate_acl_errTarget), ("wicketgate/ports.errPorts", Rows.laid_wicketgate_ports_errPorts), ("wicketgate/ports.errTarget", Rows.laid_wicketgate_ports_errTarget), ("wicketgate/snaps.errPool", Rows.laid_wicketgate_snaps_errPool), ("wicketgate/snaps.errArg", Rows.laid_wicketgate_snaps_errArg), ("wicketgate/snaps.errCursor", Rows.laid_wicketgate_snaps_errCursor), ("wicketgate/wire.errFrame", Rows.laid_wicketgate_wire_errFrame), ("wicketgate/wire.errArg", Rows.laid_wicketgate_wire_errArg), ("wicketgate/wire.errMore", Rows.laid_wicketgate_wire_errMore), ("wicketgate/wire.errKind", Rows.laid_wicketgate_wire_errKind), ("wicketgate/wire.errLong", Rows.laid_wicketgate_wire_errLong), ("wicketgate/session.errSession", Rows.laid_wicketgate_session_errSession), ("wicketgate/session.errStream", Rows.laid_wicketgate_session_errStream), ("wicketgate/session.errFrame", Rows.laid_wicketgate_session_errFrame), ("wicketgate/mac.errArg", Rows.laid_wicketgate_mac_errArg), ("wicketgate/mac.errKey", Rows.laid_wicketgate_mac_errKey), ("wicketgate/sha.constants", Rows.laid_wicketgate_sha_constants)]) (g := 23) (by kernel_rfl) (by kernel_rfl) underlying687 underlying332 (by kernel_rfl) (by kernel_rfl) (zY (zY h)))
  refine ⟨fun i => (([⟨eb0, eo0, none⟩, ⟨eb1, eo1, none⟩, ⟨eb2, eo2, none⟩, ⟨eb3, eo3, none⟩, ⟨eb4, eo4, none⟩, ⟨eb5, eo5, none⟩, ⟨eb6, eo6, none⟩, ⟨eb7, eo7, none⟩, ⟨eb8, eo8, none⟩, ⟨eb9, eo9, none⟩, default, ⟨eb10, eo10, none⟩, ⟨eb11, eo11, none⟩, ⟨eb12, eo12, none⟩, ⟨eb13, eo13, none⟩, ⟨eb14, eo14, none⟩, ⟨eb15, eo15, none⟩, ⟨eb16, eo16, none⟩, ⟨eb17, eo17, none⟩, ⟨eb18, eo18, none⟩, ⟨eb19, eo19, none⟩, ⟨eb20, eo20, none⟩] : List Addr)[i]?, 0), fun blk lp iv sv => ?_⟩
  unfold G0
  exact (List.forall_mem_cons.2 ⟨v0, (List.forall_mem_cons.2 ⟨v1, (List.forall_mem_cons.2 ⟨v2, (List.forall_mem_cons.2 ⟨v3, (List.forall_mem_cons.2 ⟨v4, (List.forall_mem_cons.2 ⟨v5, (List.forall_mem_cons.2 ⟨v6, (List.forall_mem_cons.2 ⟨v7, (List.forall_mem_cons.2 ⟨v8, (List.forall_mem_cons.2 ⟨v9, (List.forall_mem_cons.2 ⟨v10, (List.forall_mem_cons.2 ⟨v11, (List.forall_mem_cons.2 ⟨(by rw [xP]; exact sh), (List.forall_mem_cons.2 ⟨v12, (List.forall_mem_cons.2 ⟨v13, (List.forall_mem_cons.2 ⟨v14, (List.forall_mem_cons.2 ⟨v15, (List.forall_mem_cons.2 ⟨v16, (List.forall_mem_cons.2 ⟨vb, (List.forall_mem_cons.2 ⟨v17, (List.forall_mem_cons.2 ⟨v18, (List.forall_mem_cons.2 ⟨pw, (List.forall_mem_cons.2 ⟨v19, (List.forall_mem_cons.2 ⟨v20, (fun _ h => by cases h)⟩)⟩)⟩)⟩)⟩)⟩)⟩)⟩)⟩)⟩)⟩)⟩)⟩)⟩)⟩)⟩)⟩)⟩)⟩)⟩)⟩)⟩)⟩)⟩)
theorem topFlows_contract (H : Type) (enc : TypeId × Value → H) (W : World) (base : Nat) (args : Array Value) (ds gs : List (DataW H)) (before : List MemPlace)
    (hval : ∀ (j : Nat) t v, Tryz.f3.params[j]? = some t → args[j]? = some v → Value.okWide Tryz.prog W .any base t v)
    (hW : DataW.Whole enc Tryz.prog Tryz.f3.params.toList Rows.topFlowsSpec.vars false W args.toList ds gs before) (hG : GT W) :
    Calls Tryz.prog 3 args W fun e W' => ∃ v, e = .returned v ∧ Rows.topFlowsSpec.post enc Tryz.prog Tryz.f3 false true false false W args v W' := by
  have hW' := hW
  obtain ⟨p, q, hA, hV, rfl, hfz, hnd⟩ := hW
  rw [Tryz.params3] at hA hval
  obtain ⟨v0, vs0, d0, ds0, p0, q0, hargs, rfl, rfl, h0, r0⟩ := trodAll_cons hA
  obtain ⟨v1, vs1, d1, ds1, p1, q1, rfl, rfl, rfl, h1, r1⟩ := trodAll_cons r0
  obtain ⟨v2, vs2, d2, ds2, p2, q2, rfl, rfl, rfl, h2, r2⟩ := trodAll_cons r1
  obtain ⟨rfl, rfl, rfl⟩ := trodAll_nil r2
  obtain rfl : args = #[v0, v1, v2] := by cases args; simp_all
  obtain ⟨u0, rfl, _⟩ := open_string underlying9 (hval 0 9 v0 rfl rfl) h0
  obtain ⟨x0, rfl⟩ : ∃ x : Ep, u0 = bs x := ⟨u0.data.toList, AE5 u0⟩
  obtain ⟨u1, rfl, _⟩ := open_string underlying9 (hval 1 9 v1 rfl rfl) h1
  obtain ⟨x1, rfl⟩ : ∃ x : Ep, u1 = bs x := ⟨u1.data.toList, AE5 u1⟩
  obtain ⟨x2, rfl, _, _, w2⟩ := open_int underlying3 (hval 2 3 v2 rfl rfl) h2
  have hwalk := N9 W (s := x0) (t := x1) (n := x2) (AN5 w2) hG
  refine hwalk.mono fun e W' ⟨he, hE⟩ => ⟨_, he, ?_⟩
  exact AD7 laidOut (by kernel_rfl) rfl underlying4 rfl (fun ds hds => by
    match ds, hds with
    | [a0, a1, a2], _ => exact ⟨rfl, rfl, rfl⟩) hW' hE

theorem topFlows_reads (os : Os) {H : Type} (enc : TypeId × Value → H) : ∃ ds, ∃ places, DataW.whole enc Tryz.prog ((laidL os).forCall (fun _ _ => 0) ⟨#[], #[.string ⟨#[]⟩, .string ⟨#[]⟩, .int .i64 0], []⟩).memory Tryz.f3.params.toList Rows.topFlowsSpec.vars false (#[.string ⟨#[]⟩, .string ⟨#[]⟩, .int .i64 0] : Array Value).toList 8 = some (ds, [], places) :=
  ⟨[.lit (.string []), .lit (.string []), .lit (.int .i64 0)], [], by kernel_rfl⟩
set_option maxRecDepth 100000 in
theorem topFlows_lifted (os : Os) (started : os.Started) (H : Type) (enc : TypeId × Value → H) (F : Stop.Interp) :
    ReturnsInHanded {} Tryz.checked os 3 .any ((OpenSpec.ofChange Rows.topFlowsSpec).preRow enc Tryz.prog Tryz.f3 Rows.topFlowsRow.domain false Rows.topFlowsRow.laid) (((OpenSpec.ofChange Rows.topFlowsSpec).at F).post enc Tryz.prog Tryz.f3 false true false false) := by
  obtain ⟨ds0, places, hx⟩ := topFlows_reads os enc
  refine returnsInHanded_of_row (C := Tryz.checked) (s := OpenSpec.ofChange Rows.topFlowsSpec) own' started (by kernel_rfl) func3
    (witness_row_at (enc := enc) (C := Tryz.checked) false (laidL os) #[.string ⟨#[]⟩, .string ⟨#[]⟩, .int .i64 0] (los os) (lvar os) (lrest os) (lokw os)
      (OpenSpec.preRow_of_cond 8 hx (by kernel_rfl) (fun k hk => by cases hk) (by kernel_rfl) (lmetH os))) ?_
  intro W base args ds gs before hval hW _ _ _ hL hsh _
  exact topFlows_contract H enc W base args ds gs before hval hW (gl_of hL hsh)
theorem topFlows_named : Tryz.pinned.checked.prog.funcNamed Rows.topFlowsRow.func = some 3 := fid
theorem topFlows_facts : joinedFacts Tryz.pinned.checked.prog 3 Tryz.f3 (OpenSpec.ofChange Rows.topFlowsSpec).bare Rows.topFlowsRow = true := by unfold joinedFacts; rw [jf1, jf2, jf3, jf4, jf5, jf6, jf7, jf8, jg1, jg2, jg3, jg4]; kernel_rfl
theorem topFlows_said : Rows.TopFlowsSaid :=
  OpenClaim.holds_of_cond 3 Tryz.f3 rfl rfl rfl rfl rfl rfl rfl ⟨rfl, rfl, rfl, rfl, rfl⟩ rfl rfl rfl rfl rfl topFlows_named func3 topFlows_facts
    (of_decide_eq_true (by kernel_rfl)) (by unfold Func.isWrapper; first | (rw [if_pos (by decide +kernel)]; kernel_rfl) | (rw [if_neg (by decide +kernel)]; exact ⟨rfl, rfl⟩))
    (fun os started H enc _ F => by rw [OpenClaim.pre_eq_preRow]; exact topFlows_lifted os started H enc F)
theorem topFlows_plain (f : FuncId) (fn : Func) (hf : Tryz.pinned.checked.prog.funcNamed "wicketgate/wicketgatetop.TopFlows" = some f) (hfn : Tryz.pinned.checked.prog.funcs[f]? = some fn) :
    true = Tryz.pinned.checked.prog.looks [] ∧ ∀ (j : Nat) t, fn.params[j]? = some t → Tryz.pinned.checked.prog.wantsStandIn t = false := by
  obtain rfl : f = 3 := Option.some.inj (fid.symm.trans hf) |>.symm
  obtain rfl : fn = Tryz.f3 := (Option.some.inj (func3.symm.trans hfn)).symm
  refine ⟨by kernel_rfl, fun j t ht => ?_⟩
  rw [Tryz.params3] at ht
  have hm := Array.mem_of_getElem? ht
  have hall : (#[9, 9, 3] : Array TypeId).toList.all (fun t => ! Tryz.prog.wantsStandIn t) = true := by kernel_rfl
  have := List.all_eq_true.1 hall t (by simpa using hm)
  have h9 : Tryz.prog.wantsStandIn t = false := by simpa using this
  exact h9
theorem topFlows_card : Rows.TopFlowsCardSaid :=
  Claim7.holds_tied_plain_at .later [] _ _ _ _ topFlows_said (fun _ h => by cases h) (by kernel_rfl) (fun _ h => by cases h) row_tie rfl ⟨rfl, rfl⟩ (by kernel_rfl) rfl topFlows_plain jg5
theorem topFlows_met (os : Os) : laidMet Tryz.prog laidD ((laidWorld os).forCall (fun _ _ => 0) ⟨#[], #[.string ⟨#[]⟩, .string ⟨#[]⟩, .int .i64 0], []⟩).memory := A2 (laidW0 os) _ (lfit os) (lifc os)

end Go.Proofs.YtbooaoddioibeaaGreatDoor

