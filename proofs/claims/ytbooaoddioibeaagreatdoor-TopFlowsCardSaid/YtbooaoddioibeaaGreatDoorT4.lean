/- The world of the witness, with what is laid there. No condition. -/
import Derived.Test.YtbooaoddioibeaaGreatDoorJTL
import Derived.Lay
import Derived.Deep.DeepHandedRow
namespace Go.Proofs.YtbooaoddioibeaaGreatDoor
open Go
set_option maxRecDepth 100000
set_option linter.unusedVariables false
set_option linter.unusedSimpArgs false
theorem lay_sent {P : Program} {t u e ts : TypeId} {n : Nat} {nm : String} {bs : List UInt8} {ms : Array (String × TypeId)} {f : Field}
    (hf : ((List.range P.types.size).find? fun u => P.typeName? 3 u == some nm) = some u) (ht : P.underlying t = some (.interface ms)) (hu : P.underlying u = some (.pointer e)) (he : P.underlying e = some (.struct #[f]))
    (hft : f.type = ts) (hfo : f.offset = 0) (hs : P.underlying ts = some .string) (hc : P.cellsOf e = 1) (hc2 : P.cellsOf ts = 1) (hl : bs.length ≤ maxLen) :
    DataW.lay P t n (.iface nm (.ptr (.agg [.lit (.string bs)]))) = some ([.iface u (.pointer (some ⟨n, 0, none⟩))], [.cells #[.string ⟨bs.toArray⟩] e]) := by
  simp [DataW.lay, DataW.layEach, Lay.pack, ht, hf, hu, he, hft, hfo, hs, hc, hc2, hl]
theorem lay_cons {P : Program} {n g : Nat} {t : TypeId} {nm : String} {d : DataW Unit} {r : List (String × DataW Unit)} {c : List Value} {b : List Obj} {zc : List (Nat × List Value)} {zb : List Obj} {m : Nat}
    (hg : P.globalNamed nm = some g) (hl : (P.globals[g]?).map (·.type) = some t) (hy : d.lay P t n = some (c, b)) (hm : n + b.length = m) (hz : Lay.layList P m r = some (zc, zb)) :
    Lay.layList P n ((nm, d) :: r) = some ((g, c) :: zc, b ++ zb) := by
  subst hm
  cases hq : P.globals[g]? with
  | none => rw [hq] at hl; cases hl
  | some gl =>
    rw [hq] at hl
    obtain rfl := Option.some.inj hl
    unfold Lay.layList
    simp only [hg, hq, hy, hz]
theorem find_star : ((List.range Tryz.prog.types.size).find? fun u => Tryz.prog.typeName? 3 u == some "*errors.errorString") = some 728 := by
  have hp : (Tryz.prog.typeName? 3 728 == some "*errors.errorString") = true := by kernel_rfl
  rw [show Tryz.prog.types.size = 835 by kernel_rfl, List.find?_range_eq_some]
  refine ⟨hp, List.mem_range.2 (by decide), fun j hj => ?_⟩
  cases hb : (Tryz.prog.typeName? 3 j == some "*errors.errorString") with
  | false => rfl
  | true => exact absurd (er_row j (eq_of_beq hb)) (Nat.ne_of_lt hj)
def lz26 : List (Nat × List Value) := []
def lw26 : List Obj := []
def lr26 : List (String × DataW Unit) := []
def lc25 : List Value := ([.int .u32 1116352408, .int .u32 1899447441, .int .u32 3049323471, .int .u32 3921009573, .int .u32 961987163, .int .u32 1508970993, .int .u32 2453635748, .int .u32 2870763221, .int .u32 3624381080, .int .u32 310598401, .int .u32 607225278, .int .u32 1426881987, .int .u32 1925078388, .int .u32 2162078206, .int .u32 2614888103, .int .u32 3248222580, .int .u32 3835390401, .int .u32 4022224774, .int .u32 264347078, .int .u32 604807628, .int .u32 770255983, .int .u32 1249150122, .int .u32 1555081692, .int .u32 1996064986, .int .u32 2554220882, .int .u32 2821834349, .int .u32 2952996808, .int .u32 3210313671, .int .u32 3336571891, .int .u32 3584528711, .int .u32 113926993, .int .u32 338241895, .int .u32 666307205, .int .u32 773529912, .int .u32 1294757372, .int .u32 1396182291, .int .u32 1695183700, .int .u32 1986661051, .int .u32 2177026350, .int .u32 2456956037, .int .u32 2730485921, .int .u32 2820302411, .int .u32 3259730800, .int .u32 3345764771, .int .u32 3516065817, .int .u32 3600352804, .int .u32 4094571909, .int .u32 275423344, .int .u32 430227734, .int .u32 506948616, .int .u32 659060556, .int .u32 883997877, .int .u32 958139571, .int .u32 1322822218, .int .u32 1537002063, .int .u32 1747873779, .int .u32 1955562222, .int .u32 2024104815, .int .u32 2227730452, .int .u32 2361852424, .int .u32 2428436474, .int .u32 2756734187, .int .u32 3204031479, .int .u32 3329325298] : List Value)
def lb25 : List Obj := ([] : List Obj)
def lz25 : List (Nat × List Value) := (13, lc25) :: lz26
def lw25 : List Obj := lb25 ++ lw26
def lr25 : List (String × DataW Unit) := ("wicketgate/sha.constants", Rows.laid_wicketgate_sha_constants) :: lr26
def lc24 : List Value := [Value.iface 728 (.pointer (some ⟨53, 0, none⟩))]
def lb24 : List Obj := [Obj.cells #[.string ⟨([110, 111, 32, 107, 101, 121] : List UInt8).toArray⟩] 730]
def lz24 : List (Nat × List Value) := (8, lc24) :: lz25
def lw24 : List Obj := lb24 ++ lw25
def lr24 : List (String × DataW Unit) := ("wicketgate/mac.errKey", Rows.laid_wicketgate_mac_errKey) :: lr25
def lc23 : List Value := [Value.iface 728 (.pointer (some ⟨52, 0, none⟩))]
def lb23 : List Obj := [Obj.cells #[.string ⟨([110, 111, 32, 99, 104, 97, 108, 108, 101, 110, 103, 101] : List UInt8).toArray⟩] 730]
def lz23 : List (Nat × List Value) := (1, lc23) :: lz24
def lw23 : List Obj := lb23 ++ lw24
def lr23 : List (String × DataW Unit) := ("wicketgate/mac.errArg", Rows.laid_wicketgate_mac_errArg) :: lr24
def lc22 : List Value := [Value.iface 728 (.pointer (some ⟨51, 0, none⟩))]
def lb22 : List Obj := [Obj.cells #[.string ⟨([110, 111, 32, 102, 114, 97, 109, 101] : List UInt8).toArray⟩] 730]
def lz22 : List (Nat × List Value) := (7, lc22) :: lz23
def lw22 : List Obj := lb22 ++ lw23
def lr22 : List (String × DataW Unit) := ("wicketgate/session.errFrame", Rows.laid_wicketgate_session_errFrame) :: lr23
def lc21 : List Value := [Value.iface 728 (.pointer (some ⟨50, 0, none⟩))]
def lb21 : List Obj := [Obj.cells #[.string ⟨([110, 111, 32, 115, 116, 114, 101, 97, 109] : List UInt8).toArray⟩] 730]
def lz21 : List (Nat × List Value) := (9, lc21) :: lz22
def lw21 : List Obj := lb21 ++ lw22
def lr21 : List (String × DataW Unit) := ("wicketgate/session.errStream", Rows.laid_wicketgate_session_errStream) :: lr22
def lc20 : List Value := [Value.iface 728 (.pointer (some ⟨49, 0, none⟩))]
def lb20 : List Obj := [Obj.cells #[.string ⟨([110, 111, 32, 115, 101, 115, 115, 105, 111, 110] : List UInt8).toArray⟩] 730]
def lz20 : List (Nat × List Value) := (6, lc20) :: lz21
def lw20 : List Obj := lb20 ++ lw21
def lr20 : List (String × DataW Unit) := ("wicketgate/session.errSession", Rows.laid_wicketgate_session_errSession) :: lr21
def lc19 : List Value := [Value.iface 728 (.pointer (some ⟨48, 0, none⟩))]
def lb19 : List Obj := [Obj.cells #[.string ⟨([116, 111, 111, 32, 108, 111, 110, 103] : List UInt8).toArray⟩] 730]
def lz19 : List (Nat × List Value) := (5, lc19) :: lz20
def lw19 : List Obj := lb19 ++ lw20
def lr19 : List (String × DataW Unit) := ("wicketgate/wire.errLong", Rows.laid_wicketgate_wire_errLong) :: lr20
def lc18 : List Value := [Value.iface 728 (.pointer (some ⟨47, 0, none⟩))]
def lb18 : List Obj := [Obj.cells #[.string ⟨([110, 111, 32, 107, 105, 110, 100] : List UInt8).toArray⟩] 730]
def lz18 : List (Nat × List Value) := (4, lc18) :: lz19
def lw18 : List Obj := lb18 ++ lw19
def lr18 : List (String × DataW Unit) := ("wicketgate/wire.errKind", Rows.laid_wicketgate_wire_errKind) :: lr19
def lc17 : List Value := [Value.iface 728 (.pointer (some ⟨46, 0, none⟩))]
def lb17 : List Obj := [Obj.cells #[.string ⟨([116, 111, 111, 32, 115, 104, 111, 114, 116] : List UInt8).toArray⟩] 730]
def lz17 : List (Nat × List Value) := (3, lc17) :: lz18
def lw17 : List Obj := lb17 ++ lw18
def lr17 : List (String × DataW Unit) := ("wicketgate/wire.errMore", Rows.laid_wicketgate_wire_errMore) :: lr18
def lc16 : List Value := [Value.iface 728 (.pointer (some ⟨45, 0, none⟩))]
def lb16 : List Obj := [Obj.cells #[.string ⟨([110, 111, 32, 112, 108, 97, 99, 101] : List UInt8).toArray⟩] 730]
def lz16 : List (Nat × List Value) := (2, lc16) :: lz17
def lw16 : List Obj := lb16 ++ lw17
def lr16 : List (String × DataW Unit) := ("wicketgate/wire.errArg", Rows.laid_wicketgate_wire_errArg) :: lr17
def lc15 : List Value := [Value.iface 728 (.pointer (some ⟨44, 0, none⟩))]
def lb15 : List Obj := [Obj.cells #[.string ⟨([110, 111, 32, 102, 114, 97, 109, 101] : List UInt8).toArray⟩] 730]
def lz15 : List (Nat × List Value) := (0, lc15) :: lz16
def lw15 : List Obj := lb15 ++ lw16
def lr15 : List (String × DataW Unit) := ("wicketgate/wire.errFrame", Rows.laid_wicketgate_wire_errFrame) :: lr16
def lc14 : List Value := [Value.iface 728 (.pointer (some ⟨43, 0, none⟩))]
def lb14 : List Obj := [Obj.cells #[.string ⟨([110, 111, 32, 99, 117, 114, 115, 111, 114] : List UInt8).toArray⟩] 730]
def lz14 : List (Nat × List Value) := (22, lc14) :: lz15
def lw14 : List Obj := lb14 ++ lw15
def lr14 : List (String × DataW Unit) := ("wicketgate/snaps.errCursor", Rows.laid_wicketgate_snaps_errCursor) :: lr15
def lc13 : List Value := [Value.iface 728 (.pointer (some ⟨42, 0, none⟩))]
def lb13 : List Obj := [Obj.cells #[.string ⟨([110, 111, 32, 110, 117, 109, 98, 101, 114] : List UInt8).toArray⟩] 730]
def lz13 : List (Nat × List Value) := (21, lc13) :: lz14
def lw13 : List Obj := lb13 ++ lw14
def lr13 : List (String × DataW Unit) := ("wicketgate/snaps.errArg", Rows.laid_wicketgate_snaps_errArg) :: lr14
def lc12 : List Value := [Value.iface 728 (.pointer (some ⟨41, 0, none⟩))]
def lb12 : List Obj := [Obj.cells #[.string ⟨([110, 111, 32, 112, 111, 111, 108] : List UInt8).toArray⟩] 730]
def lz12 : List (Nat × List Value) := (19, lc12) :: lz13
def lw12 : List Obj := lb12 ++ lw13
def lr12 : List (String × DataW Unit) := ("wicketgate/snaps.errPool", Rows.laid_wicketgate_snaps_errPool) :: lr13
def lc11 : List Value := [Value.iface 728 (.pointer (some ⟨40, 0, none⟩))]
def lb11 : List Obj := [Obj.cells #[.string ⟨([110, 111, 32, 116, 97, 114, 103, 101, 116] : List UInt8).toArray⟩] 730]
def lz11 : List (Nat × List Value) := (11, lc11) :: lz12
def lw11 : List Obj := lb11 ++ lw12
def lr11 : List (String × DataW Unit) := ("wicketgate/ports.errTarget", Rows.laid_wicketgate_ports_errTarget) :: lr12
def lc10 : List Value := [Value.iface 728 (.pointer (some ⟨39, 0, none⟩))]
def lb10 : List Obj := [Obj.cells #[.string ⟨([110, 111, 32, 112, 111, 114, 116, 115] : List UInt8).toArray⟩] 730]
def lz10 : List (Nat × List Value) := (14, lc10) :: lz11
def lw10 : List Obj := lb10 ++ lw11
def lr10 : List (String × DataW Unit) := ("wicketgate/ports.errPorts", Rows.laid_wicketgate_ports_errPorts) :: lr11
def lc9 : List Value := [Value.iface 728 (.pointer (some ⟨38, 0, none⟩))]
def lb9 : List Obj := [Obj.cells #[.string ⟨([110, 111, 32, 116, 97, 114, 103, 101, 116] : List UInt8).toArray⟩] 730]
def lz9 : List (Nat × List Value) := (17, lc9) :: lz10
def lw9 : List Obj := lb9 ++ lw10
def lr9 : List (String × DataW Unit) := ("wicketgate/acl.errTarget", Rows.laid_wicketgate_acl_errTarget) :: lr10
def lc8 : List Value := [Value.iface 728 (.pointer (some ⟨37, 0, none⟩))]
def lb8 : List Obj := [Obj.cells #[.string ⟨([110, 111, 32, 112, 108, 97, 99, 101] : List UInt8).toArray⟩] 730]
def lz8 : List (Nat × List Value) := (16, lc8) :: lz9
def lw8 : List Obj := lb8 ++ lw9
def lr8 : List (String × DataW Unit) := ("wicketgate/acl.errPlace", Rows.laid_wicketgate_acl_errPlace) :: lr9
def lc7 : List Value := [Value.iface 728 (.pointer (some ⟨36, 0, none⟩))]
def lb7 : List Obj := [Obj.cells #[.string ⟨([110, 111, 32, 114, 117, 108, 101, 115] : List UInt8).toArray⟩] 730]
def lz7 : List (Nat × List Value) := (12, lc7) :: lz8
def lw7 : List Obj := lb7 ++ lw8
def lr7 : List (String × DataW Unit) := ("wicketgate/acl.errRules", Rows.laid_wicketgate_acl_errRules) :: lr8
def lc6 : List Value := [Value.iface 728 (.pointer (some ⟨35, 0, none⟩))]
def lb6 : List Obj := [Obj.cells #[.string ⟨([110, 111, 32, 114, 117, 108, 101] : List UInt8).toArray⟩] 730]
def lz6 : List (Nat × List Value) := (15, lc6) :: lz7
def lw6 : List Obj := lb6 ++ lw7
def lr6 : List (String × DataW Unit) := ("wicketgate/acl.errRule", Rows.laid_wicketgate_acl_errRule) :: lr7
def lc5 : List Value := ([.int .i64 1, .string ⟨([99, 114, 101, 97, 116, 101] : List UInt8).toArray⟩, .int .i64 4, .int .i64 2, .string ⟨([115, 117, 115, 112, 101, 110, 100] : List UInt8).toArray⟩, .int .i64 2, .int .i64 3, .string ⟨([114, 101, 115, 117, 109, 101] : List UInt8).toArray⟩, .int .i64 2, .int .i64 4, .string ⟨([100, 114, 97, 105, 110] : List UInt8).toArray⟩, .int .i64 2, .int .i64 5, .string ⟨([100, 101, 108, 101, 116, 101] : List UInt8).toArray⟩, .int .i64 4, .int .i64 6, .string ⟨([114, 111, 116, 97, 116, 101] : List UInt8).toArray⟩, .int .i64 4, .int .i64 7, .string ⟨([97, 99, 108] : List UInt8).toArray⟩, .int .i64 4, .int .i64 8, .string ⟨([107, 105, 108, 108] : List UInt8).toArray⟩, .int .i64 2, .int .i64 9, .string ⟨([108, 105, 115, 116] : List UInt8).toArray⟩, .int .i64 1, .int .i64 10, .string ⟨([115, 104, 111, 119] : List UInt8).toArray⟩, .int .i64 1] : List Value)
def lb5 : List Obj := ([] : List Obj)
def lz5 : List (Nat × List Value) := (20, lc5) :: lz6
def lw5 : List Obj := lb5 ++ lw6
def lr5 : List (String × DataW Unit) := ("wicketgate/roles.verbs", Rows.laid_wicketgate_roles_verbs) :: lr6
def lc4 : List Value := ([.int .u8 0, .int .u8 1, .int .u8 56, .int .u8 2, .int .u8 57, .int .u8 49, .int .u8 28, .int .u8 3, .int .u8 61, .int .u8 58, .int .u8 42, .int .u8 50, .int .u8 38, .int .u8 29, .int .u8 17, .int .u8 4, .int .u8 62, .int .u8 47, .int .u8 59, .int .u8 36, .int .u8 45, .int .u8 43, .int .u8 51, .int .u8 22, .int .u8 53, .int .u8 39, .int .u8 33, .int .u8 30, .int .u8 24, .int .u8 18, .int .u8 12, .int .u8 5, .int .u8 63, .int .u8 55, .int .u8 48, .int .u8 27, .int .u8 60, .int .u8 41, .int .u8 37, .int .u8 16, .int .u8 46, .int .u8 35, .int .u8 44, .int .u8 21, .int .u8 52, .int .u8 32, .int .u8 23, .int .u8 11, .int .u8 54, .int .u8 26, .int .u8 40, .int .u8 15, .int .u8 34, .int .u8 20, .int .u8 31, .int .u8 10, .int .u8 25, .int .u8 14, .int .u8 19, .int .u8 9, .int .u8 13, .int .u8 8, .int .u8 7, .int .u8 6] : List Value)
def lb4 : List Obj := ([] : List Obj)
def lz4 : List (Nat × List Value) := (27, lc4) :: lz5
def lw4 : List Obj := lb4 ++ lw5
def lr4 : List (String × DataW Unit) := ("math/bits.deBruijn64tab", Rows.laid_math_bits_deBruijn64tab) :: lr5
def lc3 : List Value := ([.int .u8 0, .int .u8 1, .int .u8 28, .int .u8 2, .int .u8 29, .int .u8 14, .int .u8 24, .int .u8 3, .int .u8 30, .int .u8 22, .int .u8 20, .int .u8 15, .int .u8 25, .int .u8 17, .int .u8 4, .int .u8 8, .int .u8 31, .int .u8 27, .int .u8 13, .int .u8 23, .int .u8 21, .int .u8 19, .int .u8 16, .int .u8 7, .int .u8 26, .int .u8 12, .int .u8 18, .int .u8 6, .int .u8 11, .int .u8 5, .int .u8 10, .int .u8 9] : List Value)
def lb3 : List Obj := ([] : List Obj)
def lz3 : List (Nat × List Value) := (26, lc3) :: lz4
def lw3 : List Obj := lb3 ++ lw4
def lr3 : List (String × DataW Unit) := ("math/bits.deBruijn32tab", Rows.laid_math_bits_deBruijn32tab) :: lr4
def lc2 : List Value := ([.int .u64 1, .int .u64 10, .int .u64 100, .int .u64 1000, .int .u64 10000, .int .u64 100000, .int .u64 1000000, .int .u64 10000000, .int .u64 100000000, .int .u64 1000000000, .int .u64 10000000000, .int .u64 100000000000, .int .u64 1000000000000, .int .u64 10000000000000, .int .u64 100000000000000, .int .u64 1000000000000000, .int .u64 10000000000000000, .int .u64 100000000000000000, .int .u64 1000000000000000000, .int .u64 10000000000000000000] : List Value)
def lb2 : List Obj := ([] : List Obj)
def lz2 : List (Nat × List Value) := (23, lc2) :: lz3
def lw2 : List Obj := lb2 ++ lw3
def lr2 : List (String × DataW Unit) := ("internal/strconv.uint64pow10", Rows.laid_internal_strconv_uint64pow10) :: lr3
def lc1 : List Value := [Value.iface 728 (.pointer (some ⟨34, 0, none⟩))]
def lb1 : List Obj := [Obj.cells #[.string ⟨([118, 97, 108, 117, 101, 32, 111, 117, 116, 32, 111, 102, 32, 114, 97, 110, 103, 101] : List UInt8).toArray⟩] 730]
def lz1 : List (Nat × List Value) := (25, lc1) :: lz2
def lw1 : List Obj := lb1 ++ lw2
def lr1 : List (String × DataW Unit) := ("strconv.ErrRange", Rows.laid_strconv_ErrRange) :: lr2
def lc0 : List Value := [Value.iface 728 (.pointer (some ⟨33, 0, none⟩))]
def lb0 : List Obj := [Obj.cells #[.string ⟨([105, 110, 118, 97, 108, 105, 100, 32, 115, 121, 110, 116, 97, 120] : List UInt8).toArray⟩] 730]
def lz0 : List (Nat × List Value) := (24, lc0) :: lz1
def lw0 : List Obj := lb0 ++ lw1
def lr0 : List (String × DataW Unit) := ("strconv.ErrSyntax", Rows.laid_strconv_ErrSyntax) :: lr1
theorem ll26 : Lay.layList Tryz.prog 54 lr26 = some (lz26, lw26) := by unfold lr26 Lay.layList; rfl
theorem lg25 : Tryz.prog.globalNamed "wicketgate/sha.constants" = some 13 := by kernel_rfl
theorem lt25 : (Tryz.prog.globals[13]?).map (·.type) = some 474 := by kernel_rfl
theorem ly25 : DataW.lay Tryz.prog 474 54 Rows.laid_wicketgate_sha_constants = some (lc25, lb25) := by kernel_rfl
theorem ll25 : Lay.layList Tryz.prog 54 lr25 = some (lz25, lw25) := lay_cons lg25 lt25 ly25 (by decide) ll26
theorem lg24 : Tryz.prog.globalNamed "wicketgate/mac.errKey" = some 8 := ern8
theorem lt24 : (Tryz.prog.globals[8]?).map (·.type) = some 55 := ert8
theorem ly24 : DataW.lay Tryz.prog 55 53 Rows.laid_wicketgate_mac_errKey = some (lc24, lb24) := lay_sent find_star Tryz.underlying55 Tryz.underlying728 Tryz.underlying730 rfl rfl Tryz.underlying9 er_c1 er_c2 (by decide)
theorem ll24 : Lay.layList Tryz.prog 53 lr24 = some (lz24, lw24) := lay_cons lg24 lt24 ly24 (by decide) ll25
theorem lg23 : Tryz.prog.globalNamed "wicketgate/mac.errArg" = some 1 := ern1
theorem lt23 : (Tryz.prog.globals[1]?).map (·.type) = some 55 := ert1
theorem ly23 : DataW.lay Tryz.prog 55 52 Rows.laid_wicketgate_mac_errArg = some (lc23, lb23) := lay_sent find_star Tryz.underlying55 Tryz.underlying728 Tryz.underlying730 rfl rfl Tryz.underlying9 er_c1 er_c2 (by decide)
theorem ll23 : Lay.layList Tryz.prog 52 lr23 = some (lz23, lw23) := lay_cons lg23 lt23 ly23 (by decide) ll24
theorem lg22 : Tryz.prog.globalNamed "wicketgate/session.errFrame" = some 7 := ern7
theorem lt22 : (Tryz.prog.globals[7]?).map (·.type) = some 55 := ert7
theorem ly22 : DataW.lay Tryz.prog 55 51 Rows.laid_wicketgate_session_errFrame = some (lc22, lb22) := lay_sent find_star Tryz.underlying55 Tryz.underlying728 Tryz.underlying730 rfl rfl Tryz.underlying9 er_c1 er_c2 (by decide)
theorem ll22 : Lay.layList Tryz.prog 51 lr22 = some (lz22, lw22) := lay_cons lg22 lt22 ly22 (by decide) ll23
theorem lg21 : Tryz.prog.globalNamed "wicketgate/session.errStream" = some 9 := ern9
theorem lt21 : (Tryz.prog.globals[9]?).map (·.type) = some 55 := ert9
theorem ly21 : DataW.lay Tryz.prog 55 50 Rows.laid_wicketgate_session_errStream = some (lc21, lb21) := lay_sent find_star Tryz.underlying55 Tryz.underlying728 Tryz.underlying730 rfl rfl Tryz.underlying9 er_c1 er_c2 (by decide)
theorem ll21 : Lay.layList Tryz.prog 50 lr21 = some (lz21, lw21) := lay_cons lg21 lt21 ly21 (by decide) ll22
theorem lg20 : Tryz.prog.globalNamed "wicketgate/session.errSession" = some 6 := ern6
theorem lt20 : (Tryz.prog.globals[6]?).map (·.type) = some 55 := ert6
theorem ly20 : DataW.lay Tryz.prog 55 49 Rows.laid_wicketgate_session_errSession = some (lc20, lb20) := lay_sent find_star Tryz.underlying55 Tryz.underlying728 Tryz.underlying730 rfl rfl Tryz.underlying9 er_c1 er_c2 (by decide)
theorem ll20 : Lay.layList Tryz.prog 49 lr20 = some (lz20, lw20) := lay_cons lg20 lt20 ly20 (by decide) ll21
theorem lg19 : Tryz.prog.globalNamed "wicketgate/wire.errLong" = some 5 := ern5
theorem lt19 : (Tryz.prog.globals[5]?).map (·.type) = some 55 := ert5
theorem ly19 : DataW.lay Tryz.prog 55 48 Rows.laid_wicketgate_wire_errLong = some (lc19, lb19) := lay_sent find_star Tryz.underlying55 Tryz.underlying728 Tryz.underlying730 rfl rfl Tryz.underlying9 er_c1 er_c2 (by decide)
theorem ll19 : Lay.layList Tryz.prog 48 lr19 = some (lz19, lw19) := lay_cons lg19 lt19 ly19 (by decide) ll20
theorem lg18 : Tryz.prog.globalNamed "wicketgate/wire.errKind" = some 4 := ern4
theorem lt18 : (Tryz.prog.globals[4]?).map (·.type) = some 55 := ert4
theorem ly18 : DataW.lay Tryz.prog 55 47 Rows.laid_wicketgate_wire_errKind = some (lc18, lb18) := lay_sent find_star Tryz.underlying55 Tryz.underlying728 Tryz.underlying730 rfl rfl Tryz.underlying9 er_c1 er_c2 (by decide)
theorem ll18 : Lay.layList Tryz.prog 47 lr18 = some (lz18, lw18) := lay_cons lg18 lt18 ly18 (by decide) ll19
theorem lg17 : Tryz.prog.globalNamed "wicketgate/wire.errMore" = some 3 := ern3
theorem lt17 : (Tryz.prog.globals[3]?).map (·.type) = some 55 := ert3
theorem ly17 : DataW.lay Tryz.prog 55 46 Rows.laid_wicketgate_wire_errMore = some (lc17, lb17) := lay_sent find_star Tryz.underlying55 Tryz.underlying728 Tryz.underlying730 rfl rfl Tryz.underlying9 er_c1 er_c2 (by decide)
theorem ll17 : Lay.layList Tryz.prog 46 lr17 = some (lz17, lw17) := lay_cons lg17 lt17 ly17 (by decide) ll18
theorem lg16 : Tryz.prog.globalNamed "wicketgate/wire.errArg" = some 2 := ern2
theorem lt16 : (Tryz.prog.globals[2]?).map (·.type) = some 55 := ert2
theorem ly16 : DataW.lay Tryz.prog 55 45 Rows.laid_wicketgate_wire_errArg = some (lc16, lb16) := lay_sent find_star Tryz.underlying55 Tryz.underlying728 Tryz.underlying730 rfl rfl Tryz.underlying9 er_c1 er_c2 (by decide)
theorem ll16 : Lay.layList Tryz.prog 45 lr16 = some (lz16, lw16) := lay_cons lg16 lt16 ly16 (by decide) ll17
theorem lg15 : Tryz.prog.globalNamed "wicketgate/wire.errFrame" = some 0 := ern0
theorem lt15 : (Tryz.prog.globals[0]?).map (·.type) = some 55 := ert0
theorem ly15 : DataW.lay Tryz.prog 55 44 Rows.laid_wicketgate_wire_errFrame = some (lc15, lb15) := lay_sent find_star Tryz.underlying55 Tryz.underlying728 Tryz.underlying730 rfl rfl Tryz.underlying9 er_c1 er_c2 (by decide)
theorem ll15 : Lay.layList Tryz.prog 44 lr15 = some (lz15, lw15) := lay_cons lg15 lt15 ly15 (by decide) ll16
theorem lg14 : Tryz.prog.globalNamed "wicketgate/snaps.errCursor" = some 22 := ern18
theorem lt14 : (Tryz.prog.globals[22]?).map (·.type) = some 55 := ert18
theorem ly14 : DataW.lay Tryz.prog 55 43 Rows.laid_wicketgate_snaps_errCursor = some (lc14, lb14) := lay_sent find_star Tryz.underlying55 Tryz.underlying728 Tryz.underlying730 rfl rfl Tryz.underlying9 er_c1 er_c2 (by decide)
theorem ll14 : Lay.layList Tryz.prog 43 lr14 = some (lz14, lw14) := lay_cons lg14 lt14 ly14 (by decide) ll15
theorem lg13 : Tryz.prog.globalNamed "wicketgate/snaps.errArg" = some 21 := ern17
theorem lt13 : (Tryz.prog.globals[21]?).map (·.type) = some 55 := ert17
theorem ly13 : DataW.lay Tryz.prog 55 42 Rows.laid_wicketgate_snaps_errArg = some (lc13, lb13) := lay_sent find_star Tryz.underlying55 Tryz.underlying728 Tryz.underlying730 rfl rfl Tryz.underlying9 er_c1 er_c2 (by decide)
theorem ll13 : Lay.layList Tryz.prog 42 lr13 = some (lz13, lw13) := lay_cons lg13 lt13 ly13 (by decide) ll14
theorem lg12 : Tryz.prog.globalNamed "wicketgate/snaps.errPool" = some 19 := ern16
theorem lt12 : (Tryz.prog.globals[19]?).map (·.type) = some 55 := ert16
theorem ly12 : DataW.lay Tryz.prog 55 41 Rows.laid_wicketgate_snaps_errPool = some (lc12, lb12) := lay_sent find_star Tryz.underlying55 Tryz.underlying728 Tryz.underlying730 rfl rfl Tryz.underlying9 er_c1 er_c2 (by decide)
theorem ll12 : Lay.layList Tryz.prog 41 lr12 = some (lz12, lw12) := lay_cons lg12 lt12 ly12 (by decide) ll13
theorem lg11 : Tryz.prog.globalNamed "wicketgate/ports.errTarget" = some 11 := ern10
theorem lt11 : (Tryz.prog.globals[11]?).map (·.type) = some 55 := ert10
theorem ly11 : DataW.lay Tryz.prog 55 40 Rows.laid_wicketgate_ports_errTarget = some (lc11, lb11) := lay_sent find_star Tryz.underlying55 Tryz.underlying728 Tryz.underlying730 rfl rfl Tryz.underlying9 er_c1 er_c2 (by decide)
theorem ll11 : Lay.layList Tryz.prog 40 lr11 = some (lz11, lw11) := lay_cons lg11 lt11 ly11 (by decide) ll12
theorem lg10 : Tryz.prog.globalNamed "wicketgate/ports.errPorts" = some 14 := ern12
theorem lt10 : (Tryz.prog.globals[14]?).map (·.type) = some 55 := ert12
theorem ly10 : DataW.lay Tryz.prog 55 39 Rows.laid_wicketgate_ports_errPorts = some (lc10, lb10) := lay_sent find_star Tryz.underlying55 Tryz.underlying728 Tryz.underlying730 rfl rfl Tryz.underlying9 er_c1 er_c2 (by decide)
theorem ll10 : Lay.layList Tryz.prog 39 lr10 = some (lz10, lw10) := lay_cons lg10 lt10 ly10 (by decide) ll11
theorem lg9 : Tryz.prog.globalNamed "wicketgate/acl.errTarget" = some 17 := ern15
theorem lt9 : (Tryz.prog.globals[17]?).map (·.type) = some 55 := ert15
theorem ly9 : DataW.lay Tryz.prog 55 38 Rows.laid_wicketgate_acl_errTarget = some (lc9, lb9) := lay_sent find_star Tryz.underlying55 Tryz.underlying728 Tryz.underlying730 rfl rfl Tryz.underlying9 er_c1 er_c2 (by decide)
theorem ll9 : Lay.layList Tryz.prog 38 lr9 = some (lz9, lw9) := lay_cons lg9 lt9 ly9 (by decide) ll10
theorem lg8 : Tryz.prog.globalNamed "wicketgate/acl.errPlace" = some 16 := ern14
theorem lt8 : (Tryz.prog.globals[16]?).map (·.type) = some 55 := ert14
theorem ly8 : DataW.lay Tryz.prog 55 37 Rows.laid_wicketgate_acl_errPlace = some (lc8, lb8) := lay_sent find_star Tryz.underlying55 Tryz.underlying728 Tryz.underlying730 rfl rfl Tryz.underlying9 er_c1 er_c2 (by decide)
theorem ll8 : Lay.layList Tryz.prog 37 lr8 = some (lz8, lw8) := lay_cons lg8 lt8 ly8 (by decide) ll9
theorem lg7 : Tryz.prog.globalNamed "wicketgate/acl.errRules" = some 12 := ern11
theorem lt7 : (Tryz.prog.globals[12]?).map (·.type) = some 55 := ert11
theorem ly7 : DataW.lay Tryz.prog 55 36 Rows.laid_wicketgate_acl_errRules = some (lc7, lb7) := lay_sent find_star Tryz.underlying55 Tryz.underlying728 Tryz.underlying730 rfl rfl Tryz.underlying9 er_c1 er_c2 (by decide)
theorem ll7 : Lay.layList Tryz.prog 36 lr7 = some (lz7, lw7) := lay_cons lg7 lt7 ly7 (by decide) ll8
theorem lg6 : Tryz.prog.globalNamed "wicketgate/acl.errRule" = some 15 := ern13
theorem lt6 : (Tryz.prog.globals[15]?).map (·.type) = some 55 := ert13
theorem ly6 : DataW.lay Tryz.prog 55 35 Rows.laid_wicketgate_acl_errRule = some (lc6, lb6) := lay_sent find_star Tryz.underlying55 Tryz.underlying728 Tryz.underlying730 rfl rfl Tryz.underlying9 er_c1 er_c2 (by decide)
theorem ll6 : Lay.layList Tryz.prog 35 lr6 = some (lz6, lw6) := lay_cons lg6 lt6 ly6 (by decide) ll7
theorem lg5 : Tryz.prog.globalNamed "wicketgate/roles.verbs" = some 20 := by kernel_rfl
theorem lt5 : (Tryz.prog.globals[20]?).map (·.type) = some 644 := by kernel_rfl
theorem ly5 : DataW.lay Tryz.prog 644 35 Rows.laid_wicketgate_roles_verbs = some (lc5, lb5) := by kernel_rfl
theorem ll5 : Lay.layList Tryz.prog 35 lr5 = some (lz5, lw5) := lay_cons lg5 lt5 ly5 (by decide) ll6
theorem lg4 : Tryz.prog.globalNamed "math/bits.deBruijn64tab" = some 27 := by kernel_rfl
theorem lt4 : (Tryz.prog.globals[27]?).map (·.type) = some 261 := by kernel_rfl
theorem ly4 : DataW.lay Tryz.prog 261 35 Rows.laid_math_bits_deBruijn64tab = some (lc4, lb4) := by kernel_rfl
theorem ll4 : Lay.layList Tryz.prog 35 lr4 = some (lz4, lw4) := lay_cons lg4 lt4 ly4 (by decide) ll5
theorem lg3 : Tryz.prog.globalNamed "math/bits.deBruijn32tab" = some 26 := by kernel_rfl
theorem lt3 : (Tryz.prog.globals[26]?).map (·.type) = some 744 := by kernel_rfl
theorem ly3 : DataW.lay Tryz.prog 744 35 Rows.laid_math_bits_deBruijn32tab = some (lc3, lb3) := by kernel_rfl
theorem ll3 : Lay.layList Tryz.prog 35 lr3 = some (lz3, lw3) := lay_cons lg3 lt3 ly3 (by decide) ll4
theorem lg2 : Tryz.prog.globalNamed "internal/strconv.uint64pow10" = some 23 := by kernel_rfl
theorem lt2 : (Tryz.prog.globals[23]?).map (·.type) = some 687 := by kernel_rfl
theorem ly2 : DataW.lay Tryz.prog 687 35 Rows.laid_internal_strconv_uint64pow10 = some (lc2, lb2) := by kernel_rfl
theorem ll2 : Lay.layList Tryz.prog 35 lr2 = some (lz2, lw2) := lay_cons lg2 lt2 ly2 (by decide) ll3
theorem lg1 : Tryz.prog.globalNamed "strconv.ErrRange" = some 25 := ern20
theorem lt1 : (Tryz.prog.globals[25]?).map (·.type) = some 55 := ert20
theorem ly1 : DataW.lay Tryz.prog 55 34 Rows.laid_strconv_ErrRange = some (lc1, lb1) := lay_sent find_star Tryz.underlying55 Tryz.underlying728 Tryz.underlying730 rfl rfl Tryz.underlying9 er_c1 er_c2 (by decide)
theorem ll1 : Lay.layList Tryz.prog 34 lr1 = some (lz1, lw1) := lay_cons lg1 lt1 ly1 (by decide) ll2
theorem lg0 : Tryz.prog.globalNamed "strconv.ErrSyntax" = some 24 := ern19
theorem lt0 : (Tryz.prog.globals[24]?).map (·.type) = some 55 := ert19
theorem ly0 : DataW.lay Tryz.prog 55 33 Rows.laid_strconv_ErrSyntax = some (lc0, lb0) := lay_sent find_star Tryz.underlying55 Tryz.underlying728 Tryz.underlying730 rfl rfl Tryz.underlying9 er_c1 er_c2 (by decide)
theorem ll0 : Lay.layList Tryz.prog 33 lr0 = some (lz0, lw0) := lay_cons lg0 lt0 ly0 (by decide) ll1
theorem lr_ok : laidD = lr0 := rfl
theorem lsz (os : Os) : (laidW0 os).heap.size = 33 := by kernel_rfl
noncomputable def laidL (os : Os) : World := { laidW0 os with heap := ⟨Lay.setRows (laidW0 os).heap.toList (lz0, lw0).1 ++ (lz0, lw0).2⟩ }
theorem lhan (os : Os) : (Rows.topFlowsRow.laid.filter fun x => x.2.handleName?.isSome).all (handleAtB Tryz.prog ((laidL os).forCall (fun _ _ => 0) ⟨#[], #[.string ⟨#[]⟩, .string ⟨#[]⟩, .int .i64 0], []⟩).memory) = true := by kernel_rfl
theorem los (os : Os) : (laidL os).os = os := by kernel_rfl
theorem lvar (os : Os) : ((laidL os).forCall (fun _ _ => 0) ⟨#[], #[.string ⟨#[]⟩, .string ⟨#[]⟩, .int .i64 0], []⟩).variablesB Tryz.prog = true := by kernel_rfl
theorem lrest (os : Os) : (((laidL os).forCall (fun _ _ => 0) ⟨#[], #[.string ⟨#[]⟩, .string ⟨#[]⟩, .int .i64 0], []⟩).heap.toList.drop Tryz.prog.globals.size).take ((begin Tryz.prog (fun _ _ => 0) default).world.heap.size - Tryz.prog.globals.size) = (begin Tryz.prog (fun _ _ => 0) default).world.heap.toList.drop Tryz.prog.globals.size := by kernel_rfl
theorem lokw (os : Os) : Input.okWideB Tryz.prog ((laidL os).forCall (fun _ _ => 0) ⟨#[], #[.string ⟨#[]⟩, .string ⟨#[]⟩, .int .i64 0], []⟩) 3 ⟨#[], #[.string ⟨#[]⟩, .string ⟨#[]⟩, .int .i64 0], []⟩ = true := by kernel_rfl
end Go.Proofs.YtbooaoddioibeaaGreatDoor
