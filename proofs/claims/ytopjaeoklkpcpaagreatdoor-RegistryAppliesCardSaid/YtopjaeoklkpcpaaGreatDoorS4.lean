/- Part of the proofs of this seat: walks and plain facts. No condition. -/
import Derived.Test.YtopjaeoklkpcpaaGreatDoorS0
import Derived.Test.YtopjaeoklkpcpaaGreatDoorProg
import Derived.Test.YtopjaeoklkpcpaaGreatDoorChecked
import Derived.WalkKit
import Derived.LaidEql
import Derived.Stop.Asserts
import Derived.RowKitTokens
import Derived.Test.YtopjaeoklkpcpaaGreatDoorS3
import Derived.Test.YtopjaeoklkpcpaaGreatDoorS1
import Derived.Test.YtopjaeoklkpcpaaGreatDoorS2
namespace Go.Proofs.YtopjaeoklkpcpaaGreatDoor.Jd
open Go.Proofs.Tryz
open Go.Proofs
open Go.RowKit (Below)
set_option maxRecDepth 100000
set_option maxHeartbeats 8000000
set_option linter.unusedVariables false
set_option linter.unusedSimpArgs false
def Fe (r : Ab) (role : Int) (c : Ak) (now : Int) : Nat → Nat → Nat
  | 0, at_27 => at_27
  | n_28 + 1, at_27 => (if ((at_27 : Nat) : Int) < ((((Ac r).l.length) : Nat) : Int) then (if ((((Ac r).l).getD at_27 default).handle.slot) < ((Df ((Ac r).slots)).2.1.slot) then (Fe r role c now n_28 (at_27 + 1)) else at_27) else at_27)
def Gf (r : Ab) (role : Int) (c : Ak) (now : Int) : Bool := (nM (if (!(My (Ac r))) = true then (150, 0, 0, 0, 0, 0, [], [], [], [], 0) else (if 1000000000000 ≤ (Ac r).seq then (150, 0, 0, 0, 0, 0, [], [], [], [], 0) else (if now < 0 then (150, 0, 0, 0, 0, 0, [], [], [], [], 0) else (if 1000000000000 < now then (150, 0, 0, 0, 0, 0, [], [], [], [], 0) else (if (!(Tm role ((Ae c).verb))) = true then (151, ((Ac r).seq + 1), 0, 0, 0, 0, ((Ac r).slots.gens), ((Ac r).slots.used), ((Ac r).slots.free), ((Ac r).l), ((Ac r).seq + 1)) else (Hf (if ((Ae c).verb) = 1 then (if (!(aQ ((Ae c).name))) = true then (152, 0, 0, ([] : Az), 0, 0, [], [], 0, ((Ac r).slots.gens), ((Ac r).slots.used), ((Ac r).slots.free), ((Ac r).l)) else (if 0 ≤ (Bc (Ab.mk ((Ac r).slots) ((Ac r).l) ((Ac r).seq + 1)) ((Ae c).name)) then (153, 0, 0, ([] : Az), 0, 0, [], [], 0, ((Ac r).slots.gens), ((Ac r).slots.used), ((Ac r).slots.free), ((Ac r).l)) else (if ((Df ((Ac r).slots)).2.2) ≠ 0 then (((Df ((Ac r).slots)).2.2), 0, 0, ([] : Az), 0, 0, [], [], 0, ((Ac r).slots.gens), ((Ac r).slots.used), ((Ac r).slots.free), ((Ac r).l)) else (if ((Kv ([]) ((Ae c).key) now 0 ((Ae c).n)).2.2) ≠ 0 then (((Kv ([]) ((Ae c).key) now 0 ((Ae c).n)).2.2), 0, 0, ([] : Az), 0, 0, [], [], 0, ((Ac r).slots.gens), ((Ac r).slots.used), ((Ac r).slots.free), ((Ac r).l)) else (Iz (Fe r role c now (((Ac r).l.length) + 1) 0) (fun at_27 => (0, ((Df ((Ac r).slots)).2.1.slot), ((Df ((Ac r).slots)).2.1.gen), ((Ae c).name), 1, 1, [], ((Kv ([]) ((Ae c).key) now 0 ((Ae c).n)).1), 0, ((Df ((Ac r).slots)).1.gens), ((Df ((Ac r).slots)).1.used), ((Df ((Ac r).slots)).1.free), (((((Ac r).l).take at_27) ++ ([(Aa.mk ((Df ((Ac r).slots)).2.1) ((Ae c).name) 1 1 ([]) ((Kv ([]) ((Ae c).key) now 0 ((Ae c).n)).1) 0)] : List Aa)) ++ (((Ac r).l).drop at_27))))))))) else (if ((Ae c).verb) = 9 then (0, 0, 0, ([] : Az), 0, 0, [], [], 0, ((Ac r).slots.gens), ((Ac r).slots.used), ((Ac r).slots.free), ((Ac r).l)) else (if (Bc (Ab.mk ((Ac r).slots) ((Ac r).l) ((Ac r).seq + 1)) ((Ae c).name)) < 0 then (154, 0, 0, ([] : Az), 0, 0, [], [], 0, ((Ac r).slots.gens), ((Ac r).slots.used), ((Ac r).slots.free), ((Ac r).l)) else (Iz (if ((Ae c).want) ≠ 0 then (decide (((Ae c).want) ≠ ((((Ac r).l).getD ((Bc (Ab.mk ((Ac r).slots) ((Ac r).l) ((Ac r).seq + 1)) ((Ae c).name)).toNat) default).version))) else false) (fun x_32 => (if x_32 = true then (155, 0, 0, ([] : Az), 0, 0, [], [], 0, ((Ac r).slots.gens), ((Ac r).slots.used), ((Ac r).slots.free), ((Ac r).l)) else (Lv (Lv (if ((Ae c).verb) = 2 then (if ((((Ac r).l).getD ((Bc (Ab.mk ((Ac r).slots) ((Ac r).l) ((Ac r).seq + 1)) ((Ae c).name)).toNat) default).state) = 2 then (156, 2, ((((Ac r).l).getD ((Bc (Ab.mk ((Ac r).slots) ((Ac r).l) ((Ac r).seq + 1)) ((Ae c).name)).toNat) default).rules), ((((Ac r).l).getD ((Bc (Ab.mk ((Ac r).slots) ((Ac r).l) ((Ac r).seq + 1)) ((Ae c).name)).toNat) default).creds), ((((Ac r).l).getD ((Bc (Ab.mk ((Ac r).slots) ((Ac r).l) ((Ac r).seq + 1)) ((Ae c).name)).toNat) default).deadline)) else (0, 2, ((((Ac r).l).getD ((Bc (Ab.mk ((Ac r).slots) ((Ac r).l) ((Ac r).seq + 1)) ((Ae c).name)).toNat) default).rules), ((((Ac r).l).getD ((Bc (Ab.mk ((Ac r).slots) ((Ac r).l) ((Ac r).seq + 1)) ((Ae c).name)).toNat) default).creds), ((((Ac r).l).getD ((Bc (Ab.mk ((Ac r).slots) ((Ac r).l) ((Ac r).seq + 1)) ((Ae c).name)).toNat) default).deadline))) else (if ((Ae c).verb) = 3 then (if ((((Ac r).l).getD ((Bc (Ab.mk ((Ac r).slots) ((Ac r).l) ((Ac r).seq + 1)) ((Ae c).name)).toNat) default).state) ≠ 2 then (156, 1, ((((Ac r).l).getD ((Bc (Ab.mk ((Ac r).slots) ((Ac r).l) ((Ac r).seq + 1)) ((Ae c).name)).toNat) default).rules), ((((Ac r).l).getD ((Bc (Ab.mk ((Ac r).slots) ((Ac r).l) ((Ac r).seq + 1)) ((Ae c).name)).toNat) default).creds), ((((Ac r).l).getD ((Bc (Ab.mk ((Ac r).slots) ((Ac r).l) ((Ac r).seq + 1)) ((Ae c).name)).toNat) default).deadline)) else (0, 1, ((((Ac r).l).getD ((Bc (Ab.mk ((Ac r).slots) ((Ac r).l) ((Ac r).seq + 1)) ((Ae c).name)).toNat) default).rules), ((((Ac r).l).getD ((Bc (Ab.mk ((Ac r).slots) ((Ac r).l) ((Ac r).seq + 1)) ((Ae c).name)).toNat) default).creds), ((((Ac r).l).getD ((Bc (Ab.mk ((Ac r).slots) ((Ac r).l) ((Ac r).seq + 1)) ((Ae c).name)).toNat) default).deadline))) else (if ((Ae c).verb) = 4 then (if ((((Ac r).l).getD ((Bc (Ab.mk ((Ac r).slots) ((Ac r).l) ((Ac r).seq + 1)) ((Ae c).name)).toNat) default).state) ≠ 1 then (156, 3, ((((Ac r).l).getD ((Bc (Ab.mk ((Ac r).slots) ((Ac r).l) ((Ac r).seq + 1)) ((Ae c).name)).toNat) default).rules), ((((Ac r).l).getD ((Bc (Ab.mk ((Ac r).slots) ((Ac r).l) ((Ac r).seq + 1)) ((Ae c).name)).toNat) default).creds), (IntKind.i64.wrap (now + ((Ae c).n)))) else (if ((Ae c).n) < 1 then (2, 3, ((((Ac r).l).getD ((Bc (Ab.mk ((Ac r).slots) ((Ac r).l) ((Ac r).seq + 1)) ((Ae c).name)).toNat) default).rules), ((((Ac r).l).getD ((Bc (Ab.mk ((Ac r).slots) ((Ac r).l) ((Ac r).seq + 1)) ((Ae c).name)).toNat) default).creds), (IntKind.i64.wrap (now + ((Ae c).n)))) else (if 1000000000 < ((Ae c).n) then (2, 3, ((((Ac r).l).getD ((Bc (Ab.mk ((Ac r).slots) ((Ac r).l) ((Ac r).seq + 1)) ((Ae c).name)).toNat) default).rules), ((((Ac r).l).getD ((Bc (Ab.mk ((Ac r).slots) ((Ac r).l) ((Ac r).seq + 1)) ((Ae c).name)).toNat) default).creds), (IntKind.i64.wrap (now + ((Ae c).n)))) else (if 1000000000000 < (now + ((Ae c).n)) then (2, 3, ((((Ac r).l).getD ((Bc (Ab.mk ((Ac r).slots) ((Ac r).l) ((Ac r).seq + 1)) ((Ae c).name)).toNat) default).rules), ((((Ac r).l).getD ((Bc (Ab.mk ((Ac r).slots) ((Ac r).l) ((Ac r).seq + 1)) ((Ae c).name)).toNat) default).creds), (IntKind.i64.wrap (now + ((Ae c).n)))) else (0, 3, ((((Ac r).l).getD ((Bc (Ab.mk ((Ac r).slots) ((Ac r).l) ((Ac r).seq + 1)) ((Ae c).name)).toNat) default).rules), ((((Ac r).l).getD ((Bc (Ab.mk ((Ac r).slots) ((Ac r).l) ((Ac r).seq + 1)) ((Ae c).name)).toNat) default).creds), (IntKind.i64.wrap (now + ((Ae c).n)))))))) else (if ((Ae c).verb) = 6 then (((Kv ((((Ac r).l).getD ((Bc (Ab.mk ((Ac r).slots) ((Ac r).l) ((Ac r).seq + 1)) ((Ae c).name)).toNat) default).creds) ((Ae c).key) now ((Ae c).n) ((Ae c).m)).2.2), ((((Ac r).l).getD ((Bc (Ab.mk ((Ac r).slots) ((Ac r).l) ((Ac r).seq + 1)) ((Ae c).name)).toNat) default).state), ((((Ac r).l).getD ((Bc (Ab.mk ((Ac r).slots) ((Ac r).l) ((Ac r).seq + 1)) ((Ae c).name)).toNat) default).rules), ((Kv ((((Ac r).l).getD ((Bc (Ab.mk ((Ac r).slots) ((Ac r).l) ((Ac r).seq + 1)) ((Ae c).name)).toNat) default).creds) ((Ae c).key) now ((Ae c).n) ((Ae c).m)).1), ((((Ac r).l).getD ((Bc (Ab.mk ((Ac r).slots) ((Ac r).l) ((Ac r).seq + 1)) ((Ae c).name)).toNat) default).deadline)) else (if ((Ae c).verb) = 7 then (if 0 ≤ ((Ae c).at_) then (((Ij ((((Ac r).l).getD ((Bc (Ab.mk ((Ac r).slots) ((Ac r).l) ((Ac r).seq + 1)) ((Ae c).name)).toNat) default).rules) ((Ae c).at_) ((Ae c).rule)).2), ((((Ac r).l).getD ((Bc (Ab.mk ((Ac r).slots) ((Ac r).l) ((Ac r).seq + 1)) ((Ae c).name)).toNat) default).state), ((Ij ((((Ac r).l).getD ((Bc (Ab.mk ((Ac r).slots) ((Ac r).l) ((Ac r).seq + 1)) ((Ae c).name)).toNat) default).rules) ((Ae c).at_) ((Ae c).rule)).1), ((((Ac r).l).getD ((Bc (Ab.mk ((Ac r).slots) ((Ac r).l) ((Ac r).seq + 1)) ((Ae c).name)).toNat) default).creds), ((((Ac r).l).getD ((Bc (Ab.mk ((Ac r).slots) ((Ac r).l) ((Ac r).seq + 1)) ((Ae c).name)).toNat) default).deadline)) else (((Ik ((((Ac r).l).getD ((Bc (Ab.mk ((Ac r).slots) ((Ac r).l) ((Ac r).seq + 1)) ((Ae c).name)).toNat) default).rules) (IntKind.wrap .i64 (0 - (((Ae c).at_) + 1)))).2), ((((Ac r).l).getD ((Bc (Ab.mk ((Ac r).slots) ((Ac r).l) ((Ac r).seq + 1)) ((Ae c).name)).toNat) default).state), ((Ik ((((Ac r).l).getD ((Bc (Ab.mk ((Ac r).slots) ((Ac r).l) ((Ac r).seq + 1)) ((Ae c).name)).toNat) default).rules) (IntKind.wrap .i64 (0 - (((Ae c).at_) + 1)))).1), ((((Ac r).l).getD ((Bc (Ab.mk ((Ac r).slots) ((Ac r).l) ((Ac r).seq + 1)) ((Ae c).name)).toNat) default).creds), ((((Ac r).l).getD ((Bc (Ab.mk ((Ac r).slots) ((Ac r).l) ((Ac r).seq + 1)) ((Ae c).name)).toNat) default).deadline))) else (0, ((((Ac r).l).getD ((Bc (Ab.mk ((Ac r).slots) ((Ac r).l) ((Ac r).seq + 1)) ((Ae c).name)).toNat) default).state), ((((Ac r).l).getD ((Bc (Ab.mk ((Ac r).slots) ((Ac r).l) ((Ac r).seq + 1)) ((Ae c).name)).toNat) default).rules), ((((Ac r).l).getD ((Bc (Ab.mk ((Ac r).slots) ((Ac r).l) ((Ac r).seq + 1)) ((Ae c).name)).toNat) default).creds), ((((Ac r).l).getD ((Bc (Ab.mk ((Ac r).slots) ((Ac r).l) ((Ac r).seq + 1)) ((Ae c).name)).toNat) default).deadline))))))) (fun e_40 x_41 x_42 x_43 x_44 => (if x_41 ≠ 3 then (e_40, x_41, x_42, x_43, 0) else (e_40, x_41, x_42, x_43, x_44)))) (fun e_34 x_35 x_36 x_37 x_38 => (if e_34 ≠ 0 then (e_34, 0, 0, ([] : Az), 0, 0, [], [], 0, ((Ac r).slots.gens), ((Ac r).slots.used), ((Ac r).slots.free), ((Ac r).l)) else (if ((Ae c).verb) = 8 then (0, ((((Ac r).l).getD ((Bc (Ab.mk ((Ac r).slots) ((Ac r).l) ((Ac r).seq + 1)) ((Ae c).name)).toNat) default).handle.slot), ((((Ac r).l).getD ((Bc (Ab.mk ((Ac r).slots) ((Ac r).l) ((Ac r).seq + 1)) ((Ae c).name)).toNat) default).handle.gen), ((((Ac r).l).getD ((Bc (Ab.mk ((Ac r).slots) ((Ac r).l) ((Ac r).seq + 1)) ((Ae c).name)).toNat) default).name), ((((Ac r).l).getD ((Bc (Ab.mk ((Ac r).slots) ((Ac r).l) ((Ac r).seq + 1)) ((Ae c).name)).toNat) default).state), ((((Ac r).l).getD ((Bc (Ab.mk ((Ac r).slots) ((Ac r).l) ((Ac r).seq + 1)) ((Ae c).name)).toNat) default).version), ((((Ac r).l).getD ((Bc (Ab.mk ((Ac r).slots) ((Ac r).l) ((Ac r).seq + 1)) ((Ae c).name)).toNat) default).rules), ((((Ac r).l).getD ((Bc (Ab.mk ((Ac r).slots) ((Ac r).l) ((Ac r).seq + 1)) ((Ae c).name)).toNat) default).creds), ((((Ac r).l).getD ((Bc (Ab.mk ((Ac r).slots) ((Ac r).l) ((Ac r).seq + 1)) ((Ae c).name)).toNat) default).deadline), ((Ac r).slots.gens), ((Ac r).slots.used), ((Ac r).slots.free), ((Ac r).l)) else (if ((Ae c).verb) = 10 then (0, ((((Ac r).l).getD ((Bc (Ab.mk ((Ac r).slots) ((Ac r).l) ((Ac r).seq + 1)) ((Ae c).name)).toNat) default).handle.slot), ((((Ac r).l).getD ((Bc (Ab.mk ((Ac r).slots) ((Ac r).l) ((Ac r).seq + 1)) ((Ae c).name)).toNat) default).handle.gen), ((((Ac r).l).getD ((Bc (Ab.mk ((Ac r).slots) ((Ac r).l) ((Ac r).seq + 1)) ((Ae c).name)).toNat) default).name), ((((Ac r).l).getD ((Bc (Ab.mk ((Ac r).slots) ((Ac r).l) ((Ac r).seq + 1)) ((Ae c).name)).toNat) default).state), ((((Ac r).l).getD ((Bc (Ab.mk ((Ac r).slots) ((Ac r).l) ((Ac r).seq + 1)) ((Ae c).name)).toNat) default).version), ((((Ac r).l).getD ((Bc (Ab.mk ((Ac r).slots) ((Ac r).l) ((Ac r).seq + 1)) ((Ae c).name)).toNat) default).rules), ((((Ac r).l).getD ((Bc (Ab.mk ((Ac r).slots) ((Ac r).l) ((Ac r).seq + 1)) ((Ae c).name)).toNat) default).creds), ((((Ac r).l).getD ((Bc (Ab.mk ((Ac r).slots) ((Ac r).l) ((Ac r).seq + 1)) ((Ae c).name)).toNat) default).deadline), ((Ac r).slots.gens), ((Ac r).slots.used), ((Ac r).slots.free), ((Ac r).l)) else (if ((Ae c).verb) = 5 then (0, ((((Ac r).l).getD ((Bc (Ab.mk ((Ac r).slots) ((Ac r).l) ((Ac r).seq + 1)) ((Ae c).name)).toNat) default).handle.slot), ((((Ac r).l).getD ((Bc (Ab.mk ((Ac r).slots) ((Ac r).l) ((Ac r).seq + 1)) ((Ae c).name)).toNat) default).handle.gen), ((((Ac r).l).getD ((Bc (Ab.mk ((Ac r).slots) ((Ac r).l) ((Ac r).seq + 1)) ((Ae c).name)).toNat) default).name), x_35, (((((Ac r).l).getD ((Bc (Ab.mk ((Ac r).slots) ((Ac r).l) ((Ac r).seq + 1)) ((Ae c).name)).toNat) default).version) + 1), x_36, x_37, x_38, ((Gp ((Ac r).slots) ((((Ac r).l).getD ((Bc (Ab.mk ((Ac r).slots) ((Ac r).l) ((Ac r).seq + 1)) ((Ae c).name)).toNat) default).handle)).1.gens), ((Gp ((Ac r).slots) ((((Ac r).l).getD ((Bc (Ab.mk ((Ac r).slots) ((Ac r).l) ((Ac r).seq + 1)) ((Ae c).name)).toNat) default).handle)).1.used), ((Gp ((Ac r).slots) ((((Ac r).l).getD ((Bc (Ab.mk ((Ac r).slots) ((Ac r).l) ((Ac r).seq + 1)) ((Ae c).name)).toNat) default).handle)).1.free), ((((Ac r).l).take ((Bc (Ab.mk ((Ac r).slots) ((Ac r).l) ((Ac r).seq + 1)) ((Ae c).name)).toNat)) ++ (((Ac r).l).drop (((Bc (Ab.mk ((Ac r).slots) ((Ac r).l) ((Ac r).seq + 1)) ((Ae c).name)) + 1).toNat)))) else (0, ((((Ac r).l).getD ((Bc (Ab.mk ((Ac r).slots) ((Ac r).l) ((Ac r).seq + 1)) ((Ae c).name)).toNat) default).handle.slot), ((((Ac r).l).getD ((Bc (Ab.mk ((Ac r).slots) ((Ac r).l) ((Ac r).seq + 1)) ((Ae c).name)).toNat) default).handle.gen), ((((Ac r).l).getD ((Bc (Ab.mk ((Ac r).slots) ((Ac r).l) ((Ac r).seq + 1)) ((Ae c).name)).toNat) default).name), x_35, (((((Ac r).l).getD ((Bc (Ab.mk ((Ac r).slots) ((Ac r).l) ((Ac r).seq + 1)) ((Ae c).name)).toNat) default).version) + 1), x_36, x_37, x_38, ((Ac r).slots.gens), ((Ac r).slots.used), ((Ac r).slots.free), (((((Ac r).l).take ((Bc (Ab.mk ((Ac r).slots) ((Ac r).l) ((Ac r).seq + 1)) ((Ae c).name)).toNat)) ++ ([(Aa.mk ((((Ac r).l).getD ((Bc (Ab.mk ((Ac r).slots) ((Ac r).l) ((Ac r).seq + 1)) ((Ae c).name)).toNat) default).handle) ((((Ac r).l).getD ((Bc (Ab.mk ((Ac r).slots) ((Ac r).l) ((Ac r).seq + 1)) ((Ae c).name)).toNat) default).name) x_35 (((((Ac r).l).getD ((Bc (Ab.mk ((Ac r).slots) ((Ac r).l) ((Ac r).seq + 1)) ((Ae c).name)).toNat) default).version) + 1) x_36 x_37 x_38)] : List Aa)) ++ (((Ac r).l).drop (((Bc (Ab.mk ((Ac r).slots) ((Ac r).l) ((Ac r).seq + 1)) ((Ae c).name)) + 1).toNat)))))))))))))))) (fun e_13 x_14 x_15 x_16 x_17 x_18 x_19 x_20 x_21 x_22 x_23 x_24 x_25 => (if e_13 ≠ 0 then (e_13, ((Ac r).seq + 1), 0, 0, 0, 0, ((Ac r).slots.gens), ((Ac r).slots.used), ((Ac r).slots.free), ((Ac r).l), ((Ac r).seq + 1)) else (0, ((Ac r).seq + 1), x_14, x_15, x_18, x_17, x_22, x_23, x_24, x_25, ((Ac r).seq + 1)))))))))) (fun x_1 x_2 x_3 x_4 x_5 x_6 x_7 x_8 x_9 x_10 x_11 => (if fB = true then (if (fA ((Aq (Ac r) role (Ae c) now).1) (Ab.mk (Slots.mk x_7 x_8 x_9) x_10 x_11)) = true then decide (((Aq (Ac r) role (Ae c) now).2.err) = x_1 ∧ ((Aq (Ac r) role (Ae c) now).2.seq) = x_2 ∧ ((Aq (Ac r) role (Ae c) now).2.handle.slot) = x_3 ∧ ((Aq (Ac r) role (Ae c) now).2.handle.gen) = x_4 ∧ ((Aq (Ac r) role (Ae c) now).2.version) = x_5 ∧ ((Aq (Ac r) role (Ae c) now).2.state) = x_6) else false) else false)))
end Go.Proofs.YtopjaeoklkpcpaaGreatDoor.Jd

namespace Go.Proofs.YtopjaeoklkpcpaaGreatDoor.Jd
open Go.Proofs.Tryz
open Go.Proofs
open Go.RowKit (Below)
set_option maxRecDepth 100000
set_option maxHeartbeats 8000000
set_option linter.unusedVariables false
set_option linter.unusedSimpArgs false
theorem AY3 : Ic Tryz.prog 28 [(0, 3), (3, 1), (4, 1)] := ⟨_, fun w => runUnderlying28 w, fun w => by simp⟩
theorem AY4 : Ic Tryz.prog 52 [(0, 2), (2, 1), (3, 1), (4, 1), (5, 1), (6, 1), (7, 1)] := ⟨_, fun w => runUnderlying52 w, fun w => by simp⟩
theorem Dy : Ty Tryz.prog 52 8 104 (Value.agg [(vi 0), (vi 0), (vt ([] : Az)), (vi 0), (vi 0), (vs none 0 0), (vs none 0 0), (vi 0)].toArray) := ⟨⟨Tryz.t52, by kernel_rfl, rfl, rfl, rfl⟩, rfl⟩
theorem oP (w : World) {t_1_rules_a : Option Addr} {t_1_rules_c : Nat} {t_1_creds_a : Option Addr} {t_1_creds_c : Nat} {t : (Aa × Int)} (h_t_1_rules : Sl w En 5 t_1_rules_a t.1.rules) (n_t_1_rules : t.1.rules.length ≤ 1000) (h_t_1_creds : Sl w Fy 4 t_1_creds_a t.1.creds) (n_t_1_creds : t.1.creds.length ≤ 1000) : Calls Tryz.prog 47 (List.toArray [(Value.agg [(vi t.1.handle.slot), (vi t.1.handle.gen), (vt t.1.name), (vi t.1.state), (vi t.1.version), (vs t_1_rules_a t.1.rules.length t_1_rules_c), (vs t_1_creds_a t.1.creds.length t_1_creds_c), (vi t.1.deadline), (vi t.2)].toArray)]) w fun e w2 => ∃ a1 : Option Addr, ∃ c1 : Nat, ∃ a2 : Option Addr, ∃ c2 : Nat, ∃ B1 : An, ∃ B2 : An, e = .returned (Value.agg [(vi t.1.handle.slot), (vi t.1.handle.gen), (vt t.1.name), (vi t.1.state), (vi t.1.version), (vs a1 t.1.rules.length c1), (vs a2 t.1.creds.length c2), (vi t.1.deadline)].toArray) ∧ Dj w w2 (B1 ++ B2) ∧ Bg En 5 34 a1 c1 B1 t.1.rules ∧ Bg Fy 4 62 a2 c2 B2 t.1.creds := by
 have hF := Is.refl t.1;refine enter func47 ntmps47 (h := ?_);refine Z2 ?_;refine Aj Af z76 (k := fun r1 p4 => ?_);refine Aj Af z8 (k := fun r2 bv => ?_);refine Jl ?_;refine Fg Cy 10 [(true, 0), (true, 1), (true, 2), (true, 4), (true, 5), (true, 6), (false, 3), (true, 8), (true, 9), (false, 7)] z5 ?_;refine Be (Al Lm) (k := ?_);refine Be (Al Ph) (k := ?_);refine Be (Ca isAgg49) (k := ?_);refine Be (Al Lm) (k := ?_);refine Be (Al Mx) (k := ?_);refine Be (Ca isAgg50) (k := ?_);refine gJ (Ai call82) (fun w1 hw1 => Xl w1 (s := t.1.rules) (h_s := (Bv.of_base h_t_1_rules) w1 hw1) (n_s := z7)) (k := ?_);rintro cy cr cz l9 ⟨i5, d6, ce, p9, y6, t9⟩;refine ⟨_, _, _, p9, y6, rfl, ?_⟩;refine Be (Al Lm) (k := ?_);refine Be (Al Ph) (k := ?_);refine gJ (Ai call83) (fun w1 hw1 => rQ w1 (s := t.1.creds) (h_s := (Bv.of_base h_t_1_creds) w1 hw1) (n_s := z7)) (k := ?_);rintro mq lz mr bf ⟨cp, cq, ln, dg, em, ip⟩;refine ⟨_, _, _, dg, em, rfl, ?_⟩;refine Gs ?_;refine Gv (Bw (l' := [_, _, _, _, _, _, _, _, _]) sizeOf49) (k := ?_);refine nB ?_;refine Ah (Al Mx) (k := ?_);refine Gv (Bw (l' := [_, _, _, _, _, _, _, _, _]) sizeOf50) (k := ?_);refine Pl ?_;refine nB ?_;refine nF ?_;refine gH ?_;refine hJ ?_;refine Ad results47 (Dd.agg isAgg52 sizeOf52 rfl me rfl Dd.nil) (fun w1 hw1 => ?_);exact ⟨i5, d6, cp, cq, ce, ln, (rq hF), (Bd (L := (ce ++ ln)) (hw1.perm (q0.trans (qd q0))) (nA rfl).symm), (by rw [hF.eq]; exact t9), (by rw [hF.eq]; exact ip)⟩

theorem AA5 (w : World) {r_Sg_a : Option Addr} {r_Sg_c : Nat} {r_Su_a : Option Addr} {r_Su_c : Nat} {r_Sf_a : Option Addr} {r_Sf_c : Nat} {r_l_a : Option Addr} {r_l_c : Nat} {r_l_t : List TA} {r : Ab} (h_r_Sg : Sl w eI 1 r_Sg_a r.slots.gens) (n_r_Sg : r.slots.gens.length ≤ 1000) (h_r_Su : Sl w eB 1 r_Su_a r.slots.used) (n_r_Su : r.slots.used.length ≤ 1000) (h_r_Sf : Sl w eI 1 r_Sf_a r.slots.free) (n_r_Sf : r.slots.free.length ≤ 1000) (h_r_l : Wc w Cn 8 DT r_l_a r.l r_l_t) (n_r_l : r.l.length ≤ 1000) (k_r_l : r.l.length ≤ r_l_c) (hsm : Cv r.l) : Calls Tryz.prog 39 (List.toArray [(Value.agg [(vs r_Sg_a r.slots.gens.length r_Sg_c), (vs r_Su_a r.slots.used.length r_Su_c), (vs r_Sf_a r.slots.free.length r_Sf_c), (vs r_l_a r.l.length r_l_c), (vi r.seq)].toArray)]) w fun e w2 => ∃ a1 : Option Addr, ∃ c1 : Nat, ∃ a2 : Option Addr, ∃ c2 : Nat, ∃ a3 : Option Addr, ∃ c3 : Nat, ∃ a4 : Option Addr, ∃ c4 : Nat, ∃ t4 : List TA, ∃ B : An, e = .returned (Value.agg [(vs a1 ((Tv r).slots.gens.length) c1), (vs a2 ((Tv r).slots.used.length) c2), (vs a3 ((Tv r).slots.free.length) c3), (vs a4 ((Tv r).l.length) c4), (vi ((Tv r).seq))].toArray) ∧ Dj w w2 B ∧ Fl B eI 1 a1 (Tv r).slots.gens ∧ Fl B eB 1 a2 (Tv r).slots.used ∧ Fl B eI 1 a3 (Tv r).slots.free ∧ (Dh B Cn 8 DT a4 (Tv r).l t4 ∧ (Tv r).l.length ≤ c4) ∧ (Tv r).slots.gens.length ≤ 1000 ∧ (Tv r).slots.used.length ≤ 1000 ∧ (Tv r).slots.free.length ≤ 1000 ∧ (Tv r).l.length ≤ 1000 := by
 have hF := Is.refl (Tv r);refine dR func39 ntmps39 (h := ?_);refine Z2 ?_;refine Aj Af aW (k := fun r1 p4 => ?_);refine Aj Af Ln (k := fun r2 bv => ?_);refine Pl ?_;refine Aj Af (Dt (l := [_]) zeroValue26) (k := fun r3 iu => ?_);refine Jl ?_;refine AJ0 ?_;refine Z2 ?_;refine Aj Af aW (k := fun r4 jl => ?_);refine mU ?_;refine Z9 ?_;refine Cd results49 z1 ?_;refine bY ?_;refine Lw Af rfl call85 func85 ntmps85 (fun l5 rD5 rr5 hl5 => ?_);refine mY ?_;refine mX ?_;refine Z2 ?_;refine qE ?_;refine Rw ?_;refine tE (σ1 := Nat) (σ2 := Nat) (σ3 := List Aa) (σ4 := List TA) (σ5 := Option Addr) (σ6 := Nat) (σ7 := An) (σ8 := An) (fun n_3 x_1 x_2 fh o8 o9 m6 fg => (m6 ++ (fg ++ ((l5, Dr rr5 .ready none) :: ((rD5, Obj.deferred (some [])) :: ((r4, oc [(vs r_Sg_a r.slots.gens.length r_Sg_c), (vs r_Su_a r.slots.used.length r_Su_c), (vs r_Sf_a r.slots.free.length r_Sf_c), (vs r_l_a r.l.length r_l_c), (vi r.seq)] 28) :: ((r3, oc [(vs o8 x_2.length o9)] 26) :: ((r2, oc [(vs none 0 0), (vs none 0 0), (vs none 0 0), (vs none 0 0), (vi 0)] 28) :: ((r1, oc [(vs r_Sg_a r.slots.gens.length r_Sg_c), (vs r_Su_a r.slots.used.length r_Su_c), (vs r_Sf_a r.slots.free.length r_Sf_c), (vs r_l_a r.l.length r_l_c), (vi r.seq)] 28) :: []))))))))) (fun n_3 x_1 x_2 fh o8 o9 m6 fg => [(0, (Value.func (.yield l5) [].toArray [].toArray)), (1, (Value.pointer (some ⟨r4, 0, none⟩))), (6, (vs r_l_a r.l.length r_l_c)), (7, (vi ((r.l.length : Nat) : Int))), (8, (vi ((x_1 : Nat) : Int)))]) (fun n_3 x_1 x_2 fh o8 o9 m6 fg => r.l.length - x_1 < n_3 ∧ Is (Rj r (r.l.length + 1) 0 []) (Rj r n_3 x_1 x_2) ∧ (Bg Cn 8 52 o8 o9 m6 (List.zip x_2 fh) ∧ Bk fg DT x_2 fh) ∧ x_2.length ≤ x_1 ∧ x_1 ≤ r.l.length) (fun n_3 x_1 x_2 fh o8 o9 m6 fg => n_3) (r.l.length + 1) 0 ([]) ([]) none 0 ([]) ([]) ?_ se z49 ?_
 ·exact ⟨Nat.lt_succ_self _, Is.refl _, ⟨Bg.nil, Bk.nil⟩, Na, Na⟩
 ·rintro (_ | n_3) x_1 x_2 fh o8 o9 m6 fg ⟨hm5, aa, ⟨cx, fw⟩, hi6, hi7⟩
  ·omega
  refine gZ ?_;refine Av rfl (fun a9 => ?_) (fun a9 => ?_);rotate_left
  ·refine Cz ?_;refine Sa ?_;refine Mg (.inr rfl) results85 (qc (qc q0)) ?_;refine Vw ?_;refine Z2 ?_;refine fO ?_;refine Aj Af jN (k := fun r9 xe => ?_);refine dI ?_;refine Jl ?_;refine Fg Cy 14 [(true, 0), (true, 1), (true, 3), (true, 4), (true, 6), (true, 7), (true, 10), (true, 11), (true, 12), (false, 2), (false, 5), (false, 8), (true, 9), (true, 13)] z5 ?_;refine zH ?_;refine mJ ?_;refine jQ ?_;refine Be (Ca isAgg26) (k := ?_);refine zQ ?_;refine gJ (Ai call71) (fun w1 hw1 => Xk w1 (s := r.slots.gens) (h_s := (Bv.of_base h_r_Sg) w1 hw1) (n_s := by first | omega | (simp; done) | exact (hsm _ z4).1 | exact (hsm _ z4).2)) (k := ?_);rintro sc qs si ez ⟨nh, nk, lq, gq, ke, fy⟩;refine ⟨_, _, _, gq, ke, rfl, ?_⟩;refine gJ (Ai call72) (fun w1 hw1 => eR w1 (s := r.slots.used) (h_s := (Bv.of_base h_r_Su) w1 hw1) (n_s := by first | omega | (simp; done) | exact (hsm _ z4).1 | exact (hsm _ z4).2)) (k := ?_);rintro ya vq yc gb ⟨vd, vl, qn, jz, nv, lc⟩;refine ⟨_, _, _, jz, nv, rfl, ?_⟩;refine gJ (Ai call71) (fun w1 hw1 => Xk w1 (s := r.slots.free) (h_s := (Bv.of_base h_r_Sf) w1 hw1) (n_s := by first | omega | (simp; done) | exact (hsm _ z4).1 | exact (hsm _ z4).2)) (k := ?_);rintro a88 zr a90 li ⟨zl, zp, uo, nt, wm, oe⟩;refine ⟨_, _, _, nt, wm, rfl, ?_⟩;refine Be z51 (k := ?_);refine Be z75 (k := ?_);refine Gs ?_;refine AQ9 ?_;refine Fa [rD5] (qc (qc (qc (qa (qa (qc (qc q0))))))) results39 N2 (fun w1 hw1 => ?_);exact ⟨nh, nk, vd, vl, zl, zp, o8, o9, fh, (lq ++ (qn ++ (uo ++ (m6 ++ fg)))), (rq (hF.rn2 (aa.neg a9))), (Bd (L := (lq ++ (qn ++ (uo ++ (m6 ++ fg))))) (hw1.perm (((((qd (qd (qd (qb (qb (qd q0)))))).trans (qd (qd (qd (qd (qb (qb q0))))))).trans (qd (qd q0))).trans (qd (qd (qd q0)))).trans (qd (qd (qd (qd q0)))))) (nA (nA (nA (nA rfl)))).symm), (by rw [(hF.rn2 (aa.neg a9)).eq]; exact (fy.slb Bb)), (by rw [(hF.rn2 (aa.neg a9)).eq]; exact (lc.slb Ds)), (by rw [(hF.rn2 (aa.neg a9)).eq]; exact (oe.slb Bb)), (by rw [(hF.rn2 (aa.neg a9)).eq]; exact ⟨((Bg.nb (U := (m6 ++ fg)) Am cx fw (hB := sh) (hR := sh)).mono sh), (by have h0 := cx.le'; rwa [Aw fw.1] at h0)⟩), (rl (hF.rn2 (aa.neg a9))), (rl (hF.rn2 (aa.neg a9))), (rl (hF.rn2 (aa.neg a9))), (rl (hF.rn2 (aa.neg a9)))⟩
  refine Qf ?_;refine AG1 ?_;have hcp2 := (h_r_l.2.2 x_1 z3).2.2.1;have hcp3 := (h_r_l.2.2 x_1 z3).2.2.2;refine AJ8 ?_;refine Aj Af z8 (k := fun r6 ql => ?_);refine AH7 ?_;refine Z0 ?_;refine Qv ?_;refine nF ?_;refine AH8 ?_;refine rB (vs := [(vi ((x_1 : Nat) : Int)), (Value.agg [(vi ((r.l.getD x_1 default).handle.slot)), (vi ((r.l.getD x_1 default).handle.gen)), (vt ((r.l.getD x_1 default).name)), (vi ((r.l.getD x_1 default).state)), (vi ((r.l.getD x_1 default).version)), (vs ((r_l_t.getD x_1 default).ra) ((r.l.getD x_1 default).rules.length) ((r_l_t.getD x_1 default).rc)), (vs ((r_l_t.getD x_1 default).ca) ((r.l.getD x_1 default).creds.length) ((r_l_t.getD x_1 default).cc)), (vi ((r.l.getD x_1 default).deadline)), (vi r.seq)].toArray)]) hl5 (qa (qc (qc q0))) Fo ?_;refine Ch ?_;refine Aj Af (Dt (l := [_, _, _, _, _, _, _, _, _]) zeroValue88) (k := fun r7 xd => ?_);refine AI1 ?_;refine O3 ?_;refine Ex _ _ (vp (qb (qb (qb q0))) (nA nE)) Cy 5 [(true, 0), (true, 1), (false, 2), (false, 3), (false, 4)] z5 ?_;refine Be (Ca isAgg26) (k := ?_);refine Be (Ck isAgg88 sizeOf88) (k := ?_);refine gJ (Ai call47) (fun w1 hw1 => oP w1 (t := ((r.l.getD x_1 default), r.seq)) (h_t_1_rules := (fun w hw => ((Ff.of_base Eo h_r_l).at (m := x_1) z3 w hw).1) w1 hw1) (n_t_1_rules := by first | omega | (simp; done) | exact (hsm _ z4).1 | exact (hsm _ z4).2) (h_t_1_creds := (fun w hw => ((Ff.of_base Eo h_r_l).at (m := x_1) z3 w hw).2.1) w1 hw1) (n_t_1_creds := by first | omega | (simp; done) | exact (hsm _ z4).1 | exact (hsm _ z4).2)) (k := ?_);rintro sb qr sg dp ⟨k9, l4, lu, lx, p8, lr, gp, kc, l8, dm⟩;refine ⟨_, _, _, gp, kc, (nA rfl).symm, ?_⟩;refine Sy Af sY (k := fun r8 ub => ?_);refine Kb (List.zip (x_2 ++ ([(((r.l.getD x_1 default), r.seq).1)] : List Aa)) (fh ++ ([⟨k9, l4, lu, lx⟩] : List TA))) (List.zip_append fw.1.symm).symm Dy underlying26 Am cx q0 (Bg.nj Am (Bg.mk (xs := List.zip ([(((r.l.getD x_1 default), r.seq).1)] : List Aa) ([⟨k9, l4, lu, lx⟩] : List TA)) rfl rfl Am) (Bk.one (B := (p8 ++ (lr ++ []))) (D := DT) (fun w hw => ⟨(l8.sl Bu (Cu hw)), (dm.sl Cq (Cu hw)), l8.le', dm.le'⟩)) (hB := sh) (hR := sh)).sl ⟨by first | exact lb, by first | exact lb⟩ (n := x_2.length) (m := 1) (hn := (Aw fw.1)) (hm := (Aw (Bk.one (B := (p8 ++ (lr ++ []))) (D := DT) (fun w hw => ⟨(l8.sl Bu (Cu hw)), (dm.sl Cq (Cu hw)), l8.le', dm.le'⟩)).1)) (k := fun ax2 cx2 jp ao => ?_);have hzl2 : (List.zip (x_2 ++ ([(((r.l.getD x_1 default), r.seq).1)] : List Aa)) (fh ++ ([⟨k9, l4, lu, lx⟩] : List TA))).length = (x_2 ++ ([(((r.l.getD x_1 default), r.seq).1)] : List Aa)).length := Aw (by rw [List.length_append, List.length_append, fw.1, (Bk.one (B := (p8 ++ (lr ++ []))) (D := DT) (fun w hw => ⟨(l8.sl Bu (Cu hw)), (dm.sl Cq (Cu hw)), l8.le', dm.le'⟩)).1]);rw [hzl2];have hal2 : (x_2 ++ ([(((r.l.getD x_1 default), r.seq).1)] : List Aa)).length = x_2.length + 1 := List.length_append;have hdp4 : Bk (fg ++ (p8 ++ (lr ++ []))) DT (x_2 ++ ([(((r.l.getD x_1 default), r.seq).1)] : List Aa)) (fh ++ ([⟨k9, l4, lu, lx⟩] : List TA)) := Bk.append (fw.mono sh) ((Bk.one (B := (p8 ++ (lr ++ []))) (D := DT) (fun w hw => ⟨(l8.sl Bu (Cu hw)), (dm.sl Cq (Cu hw)), l8.le', dm.le'⟩)).mono sh);refine Zy ?_;refine Gv (Bw (l' := [_]) sizeOf26) (k := ?_);refine fV ?_;refine La (qc (qa (qc (qc q0)))) ?_;refine Zu ?_;refine bZ ?_;refine Ce _ ((((((((((qa (qc (qa (qc (qc (qa (qa (qc (qa (qa (qa (qa q0)))))))))))).trans (qa (qa (qc (qa (qc (qc (qa (qa (qc (qa (qa (qa q0))))))))))))).trans (qa (qa (qa (qc (qa (qc (qc (qa (qa (qc (qa (qa q0))))))))))))).trans (qa (qa (qa (qa (qc (qa (qc (qc (qa (qa (qc (qa q0))))))))))))).trans (qa (qa (qa (qa (qa (qc (qa (qc (qc (qa (qa (qc q0))))))))))))).trans (qa (qa (qa (qa (qa q0)))))).trans (qb (qb (qb (qb (qb (qb (qd (qb (qd q0)))))))))).trans (qd (qb (qb (qb (qb (qb (qb (qd (qb q0)))))))))).trans (qd (qd (qb (qb (qb (qb (qb (qb (qd (qb (qb (qb q0))))))))))))).trans (qd (qd (qd (qb (qb (qb (qb (qb (qb q0)))))))))) ?_;refine Bo _ (List.Sublist.append Mc (List.Sublist.append Mc (List.Sublist.append Mc (List.Sublist.append Mc (List.Sublist.cons_cons _ (List.Sublist.cons_cons _ (List.Sublist.cons_cons _ (List.Sublist.cons_cons _ (List.Sublist.cons_cons _ (List.Sublist.cons_cons _ Gx)))))))))) ?_;exact tF n_3 (x_1 + 1) (x_2 ++ ([(((r.l.getD x_1 default), r.seq).1)] : List Aa)) (fh ++ ([⟨k9, l4, lu, lx⟩] : List TA)) ax2 cx2 jp (fg ++ (p8 ++ lr)) ⟨by omega, (aa.pos a9), ⟨ao, (hdp4.mono sh)⟩, z4, z4⟩ (Nat.lt_succ_self _) se z49

theorem J7 (w : World) {r_Sg_a : Option Addr} {r_Sg_c : Nat} {r_Su_a : Option Addr} {r_Su_c : Nat} {r_Sf_a : Option Addr} {r_Sf_c : Nat} {r_l_a : Option Addr} {r_l_c : Nat} {r_l_t : List TA} {r : Ab} (h_r_Sg : Sl w eI 1 r_Sg_a r.slots.gens) (n_r_Sg : r.slots.gens.length ≤ 1000) (h_r_Su : Sl w eB 1 r_Su_a r.slots.used) (n_r_Su : r.slots.used.length ≤ 1000) (h_r_Sf : Sl w eI 1 r_Sf_a r.slots.free) (n_r_Sf : r.slots.free.length ≤ 1000) (h_r_l : Wc w Cn 8 DT r_l_a r.l r_l_t) (n_r_l : r.l.length ≤ 1000) (k_r_l : r.l.length ≤ r_l_c) (hsm : Cv r.l) : Calls Tryz.prog 39 (List.toArray [(Value.agg [(vs r_Sg_a r.slots.gens.length r_Sg_c), (vs r_Su_a r.slots.used.length r_Su_c), (vs r_Sf_a r.slots.free.length r_Sf_c), (vs r_l_a r.l.length r_l_c), (vi r.seq)].toArray)]) w fun e w2 => ∃ a1 : Option Addr, ∃ c1 : Nat, ∃ a2 : Option Addr, ∃ c2 : Nat, ∃ a3 : Option Addr, ∃ c3 : Nat, ∃ a4 : Option Addr, ∃ c4 : Nat, ∃ t4 : List TA, ∃ B : An, e = .returned (Value.agg [(vs a1 r.slots.gens.length c1), (vs a2 r.slots.used.length c2), (vs a3 r.slots.free.length c3), (vs a4 r.l.length c4), (vi r.seq)].toArray) ∧ Dj w w2 B ∧ Fl B eI 1 a1 r.slots.gens ∧ Fl B eB 1 a2 r.slots.used ∧ Fl B eI 1 a3 r.slots.free ∧ (Dh B Cn 8 DT a4 r.l t4 ∧ r.l.length ≤ c4) ∧ r.slots.gens.length ≤ 1000 ∧ r.slots.used.length ≤ 1000 ∧ r.slots.free.length ≤ 1000 ∧ r.l.length ≤ 1000 := by
 have h := AA5 w (r_Sg_a := r_Sg_a) (r_Sg_c := r_Sg_c) (r_Su_a := r_Su_a) (r_Su_c := r_Su_c) (r_Sf_a := r_Sf_a) (r_Sf_c := r_Sf_c) (r_l_a := r_l_a) (r_l_c := r_l_c) (r_l_t := r_l_t) (r := r) h_r_Sg n_r_Sg h_r_Su n_r_Su h_r_Sf n_r_Sf h_r_l n_r_l k_r_l hsm;simp only [AA3] at h;exact h

theorem J8 (w : World) {r_Sg_a : Option Addr} {r_Sg_c : Nat} {r_Su_a : Option Addr} {r_Su_c : Nat} {r_Sf_a : Option Addr} {r_Sf_c : Nat} {r_l_a : Option Addr} {r_l_c : Nat} {r_l_t : List TA} {r : Ab} {name : Az} (h_r_Sg : Sl w eI 1 r_Sg_a r.slots.gens) (n_r_Sg : r.slots.gens.length ≤ 1000) (h_r_Su : Sl w eB 1 r_Su_a r.slots.used) (n_r_Su : r.slots.used.length ≤ 1000) (h_r_Sf : Sl w eI 1 r_Sf_a r.slots.free) (n_r_Sf : r.slots.free.length ≤ 1000) (h_r_l : Wc w Cn 8 DT r_l_a r.l r_l_t) (n_r_l : r.l.length ≤ 1000) (k_r_l : r.l.length ≤ r_l_c) (hsm : Cv r.l) : Calls Tryz.prog 20 (List.toArray [(Value.agg [(vs r_Sg_a r.slots.gens.length r_Sg_c), (vs r_Su_a r.slots.used.length r_Su_c), (vs r_Sf_a r.slots.free.length r_Sf_c), (vs r_l_a r.l.length r_l_c), (vi r.seq)].toArray), (vt name)]) w fun e w2 => ∃ a1 : Option Addr, ∃ c1 : Nat, ∃ a2 : Option Addr, ∃ c2 : Nat, ∃ B1 : An, ∃ B2 : An, e = .returned (Value.tuple [(Value.agg [(vi ((Mo r name).1.handle.slot)), (vi ((Mo r name).1.handle.gen)), (vt ((Mo r name).1.name)), (vi ((Mo r name).1.state)), (vi ((Mo r name).1.version)), (vs a1 ((Mo r name).1.rules.length) c1), (vs a2 ((Mo r name).1.creds.length) c2), (vi ((Mo r name).1.deadline))].toArray), (Value.bool ((Mo r name).2))].toArray) ∧ Dj w w2 (B1 ++ B2) ∧ Bg En 5 34 a1 c1 B1 (Mo r name).1.rules ∧ Bg Fy 4 62 a2 c2 B2 (Mo r name).1.creds ∧ (Mo r name).1.rules.length ≤ 1000 ∧ (Mo r name).1.creds.length ≤ 1000 := by
 have hF := Is.refl (Mo r name);refine enter func20 ntmps20 (h := ?_);refine Z2 ?_;refine Aj Af aW (k := fun r1 p4 => ?_);refine Aj Af z8 (k := fun r2 bv => ?_);refine Z1 ?_;refine sZ ?_;refine Cr ?_;refine Fu (Ai call46) (fun w1 hw1 => iU w1 (r := r) (name := name) (h_r_Sg := (Bv.of_base h_r_Sg) w1 hw1) (n_r_Sg := by first | omega | (simp; done) | exact (hsm _ z4).1 | exact (hsm _ z4).2) (h_r_Su := (Bv.of_base h_r_Su) w1 hw1) (n_r_Su := by first | omega | (simp; done) | exact (hsm _ z4).1 | exact (hsm _ z4).2) (h_r_Sf := (Bv.of_base h_r_Sf) w1 hw1) (n_r_Sf := by first | omega | (simp; done) | exact (hsm _ z4).1 | exact (hsm _ z4).2) (h_r_l := (Ff.of_base Eo h_r_l).2 w1 hw1) (n_r_l := by first | omega | (simp; done) | exact (hsm _ z4).1 | exact (hsm _ z4).2) (k_r_l := k_r_l)) (k := ?_);refine St ?_;refine Oo ?_;refine Lo ?_;refine Zu ?_;refine Cx rfl (fun a9 => ?_) (fun a9 => ?_)
 ·refine Bp ?_;refine Ch ?_;refine T7 ?_;refine gH ?_;refine Qa ?_;refine Ad results20 (Dd.agg isAgg52 sizeOf52 rfl me rfl z1) (fun w1 hw1 => ?_);exact ⟨none, 0, none, 0, [], [], (rq (hF.t a9)), (hw1.fresh_out.sub Gx), (ro (hF.t a9)), (ro (hF.t a9)), (by rw [(hF.t a9).eq]; first | omega | (simp; done) | exact (hsm _ z4).1 | exact (hsm _ z4).2 | (simp; done)), (by rw [(hF.t a9).eq]; first | omega | (simp; done) | exact (hsm _ z4).1 | exact (hsm _ z4).2 | (simp; done))⟩
 have hfhq1 := Zh pO;refine Kx ?_;refine Fg Cy 9 [(true, 0), (true, 1), (true, 2), (true, 3), (true, 4), (true, 5), (true, 6), (true, 7), (false, 8)] z5 ?_;refine fS ?_;refine Be (Cj (n := r.l.length) runUnderlying26 sizeOf52 (((Ap r name).1).toNat) (Ff.of_base Eo h_r_l).sl (Ed h_r_l.1 z3) (Aw h_r_l.1)) (k := ?_);have hcp2 := (h_r_l.2.2 (((Ap r name).1).toNat) z3).2.2.1;have hcp3 := (h_r_l.2.2 (((Ap r name).1).toNat) z3).2.2.2;refine Be (Du isAgg52 sizeOf52 (((Ap r name).1).toNat) (Ff.of_base Eo h_r_l).sl (Ed h_r_l.1 z3)) (k := ?_);refine zQ ?_;refine Be (Eb (cs := [_, _, _, _, _, _, _, _, _]) zeroValue88 J3) (k := ?_);refine gJ (Ai call47) (fun w1 hw1 => oP w1 (t := ((r.l.getD (((Ap r name).1).toNat) default), r.seq)) (h_t_1_rules := (fun w hw => ((Ff.of_base Eo h_r_l).at (m := ((Ap r name).1).toNat) z3 w hw).1) w1 hw1) (n_t_1_rules := by first | omega | (simp; done) | exact (hsm _ z4).1 | exact (hsm _ z4).2) (h_t_1_creds := (fun w hw => ((Ff.of_base Eo h_r_l).at (m := ((Ap r name).1).toNat) z3 w hw).2.1) w1 hw1) (n_t_1_creds := by first | omega | (simp; done) | exact (hsm _ z4).1 | exact (hsm _ z4).2)) (k := ?_);rintro cy cr cz l9 ⟨i5, d6, o5, o6, ce, qo, p9, y6, t9, eo⟩;refine ⟨_, _, _, p9, y6, (nA rfl).symm, ?_⟩;refine Gs ?_;refine AJ1 ?_;refine Ad results20 (Dd.agg isAgg52 sizeOf52 rfl me rfl z1) (fun w1 hw1 => ?_);exact ⟨i5, d6, o5, o6, ce, qo, (rq (hF.f a9)), (Bd (L := (ce ++ qo)) (hw1.perm (List.Perm.refl _)) (nA rfl).symm), (by rw [(hF.f a9).eq]; exact t9), (by rw [(hF.f a9).eq]; exact eo), (by rw [(hF.f a9).eq]; first | omega | (simp; done) | exact (hsm _ z4).1 | exact (hsm _ z4).2 | (simp; done)), (by rw [(hF.f a9).eq]; first | omega | (simp; done) | exact (hsm _ z4).1 | exact (hsm _ z4).2 | (simp; done))⟩

theorem AA6 (w : World) {n_ : Int} : Calls Tryz.prog 29 (List.toArray [(vi n_)]) w fun e w2 => ∃ a1 : Option Addr, ∃ c1 : Nat, ∃ a2 : Option Addr, ∃ c2 : Nat, ∃ a3 : Option Addr, ∃ c3 : Nat, ∃ a4 : Option Addr, ∃ c4 : Nat, ∃ t4 : List TA, ∃ B : An, e = .returned (Value.tuple [(Value.agg [(vs a1 ((Ep n_).1.slots.gens.length) c1), (vs a2 ((Ep n_).1.slots.used.length) c2), (vs a3 ((Ep n_).1.slots.free.length) c3), (vs a4 ((Ep n_).1.l.length) c4), (vi ((Ep n_).1.seq))].toArray), (vi ((Ep n_).2))].toArray) ∧ Dj w w2 B ∧ Fl B eI 1 a1 (Ep n_).1.slots.gens ∧ Fl B eB 1 a2 (Ep n_).1.slots.used ∧ Fl B eI 1 a3 (Ep n_).1.slots.free ∧ (Dh B Cn 8 DT a4 (Ep n_).1.l t4 ∧ (Ep n_).1.l.length ≤ c4) ∧ (Ep n_).1.slots.gens.length ≤ 1000 ∧ (Ep n_).1.slots.used.length ≤ 1000 ∧ (Ep n_).1.slots.free.length ≤ 1000 ∧ (Ep n_).1.l.length ≤ 1000 := by
 have hF := Is.refl (Ep n_);refine enter func29 ntmps29 (h := ?_);refine Z2 ?_;refine Aj Af Ln (k := fun r1 p4 => ?_);refine Lp ?_;refine Hd (Ai call64) (fun w1 hw1 => X2 w1 (n_ := n_)) (k := ?_);rintro cy cr cz l9 ⟨i5, d6, o5, o6, q9, t5, m1, p9, y6, c6, p5, p6, fx, tu, tv⟩;refine ⟨_, _, p9, l9.fresh y6, ?_⟩;refine St ?_;refine Aj Af jN (k := fun r2 bv => ?_);refine dI ?_;refine Z1 ?_;refine pL ?_;refine Ah z75 (k := ?_);refine Cr ?_;refine kG ?_;refine Z9 ?_;refine Ad results29 (Dd.agg isAgg28 sizeOf28 rfl me rfl z1) (fun w1 hw1 => ?_);exact ⟨i5, d6, o5, o6, q9, t5, none, 0, [], m1, (rq hF), (Bd (L := m1) (hw1.perm (qb q0)) rfl.symm), (by unfold Ep; exact (c6.mono yX)), (by unfold Ep; exact (p5.mono yX)), (by unfold Ep; exact (p6.mono yX)), (by unfold Ep; exact ⟨Dh.nil, by first | (simp; done) | exact Nat.le_of_eq rfl⟩), (by unfold Ep; first | exact lb), (by unfold Ep; first | exact lb), (by unfold Ep; first | exact lb), (by unfold Ep; first | exact lb)⟩

end Go.Proofs.YtopjaeoklkpcpaaGreatDoor.Jd

namespace Go.Proofs.YtopjaeoklkpcpaaGreatDoor.Jd
open Go.Proofs.Tryz
open Go.Proofs
set_option maxRecDepth 100000
open Go.RowKit Go.Extern.Stop Go.Stop Go.Extern
set_option linter.unusedVariables false
set_option linter.unusedSimpArgs false
theorem AN2 (t : Value) (w : World) : Calls Tryz.prog 76 #[.nilIface, t] w fun e w' => e = .returned (.bool false) ∧ w' = w := by
  go_enter func76, ntmps76
  go_wp2
  go_ret
  exact ⟨rfl, rfl⟩
theorem J9 (w : World) {t : Value} : Jc Tryz.prog 76 [.nilIface, t] w (.bool false) :=
  (AN2 t w).mono fun e w' ⟨he, hw⟩ => ⟨he, hw ▸ Below.refl _ _⟩
theorem oQ (t : Addr) (w : World) : (ReflectliteValue.unpack (.iface 122 (.pointer (some t)))).run Tryz.prog w
    = .ok (.agg #[.pointer (some ⟨6, 122, none⟩), .pointer (some ⟨w.heap.size, 0, none⟩), .int .u64 150]) (w.alloc (.cells #[.pointer (some t)] 122)) := by kernel_rfl
theorem K0 (a : Addr) (w : World) : (ReflectliteValue.methodAny (ReflectliteValue.valueError "reflectlite.Value.Type" 0) (fun t _ _ _ => ReflectliteType.toType t) #[.agg #[.pointer (some ⟨6, 122, none⟩), .pointer (some a), .int .u64 150]]).run Tryz.prog w
    = .ok (.iface 199 (.agg #[.pointer (some ⟨6, 122, none⟩)])) w := by kernel_rfl
theorem gS (h : Value) (w : World) : (Go.method 373 199 (.agg #[h]) "Kind").run Tryz.prog w = .ok (196, h) w := by kernel_rfl
theorem K1 (w : World) : ((ReflectliteType.abiMethod fun t => (fun a : Nat => Value.int IntKind.u8 (a : Int)) <$> Rtype.kind t) #[.pointer (some ⟨6, 122, none⟩)]).run Tryz.prog w = .ok (.int .u8 22) w := by kernel_rfl
theorem K2 (w : World) : ((ReflectliteType.abiMethod fun t => (fun a : Nat => Value.int IntKind.u8 (a : Int)) <$> Rtype.kind t) #[.pointer (some ⟨6, 120, none⟩)]).run Tryz.prog w = .ok (.int .u8 25) w := by kernel_rfl
theorem K3 (z : Sem Value) (f : TypeId → Addr → Nat → Nat → Sem Value) (v : Value) :
    ReflectliteValue.method z f #[v] = (do match ← ReflectliteValue.parts v with | none => z | some (t, a, fl) => f t a fl (fl % 32)) := rfl
theorem iW (a : Addr) (w : World) : (ReflectliteValue.parts (.agg #[.pointer (some ⟨6, 122, none⟩), .pointer (some a), .int .u64 150])).run Tryz.prog w = .ok (some (122, a, 150)) w := by kernel_rfl
theorem xQ (a p : Addr) (W : World) (ha : W.cell? a = some (.pointer (some p))) :
    (ReflectliteValue.method (ReflectliteValue.valueError "reflectlite.Value.IsNil" 0) ReflectliteValue.isNil #[.agg #[.pointer (some ⟨6, 122, none⟩), .pointer (some a), .int .u64 150]]).run Tryz.prog W = .ok (.bool false) W := by
  rw [K3];simp only [Sem.run_bind, iW, Result.andThen];simp [ReflectliteValue.isNil, loadVar, isAgg, underlying, underlying122, ha, Result.andThen]
theorem gT (h : Value) (w : World) : (Go.method 373 199 (.agg #[h]) "Elem").run Tryz.prog w = .ok (206, .agg #[h]) w := by kernel_rfl
theorem Vs (h : Value) (w : World) : (Go.method 373 199 (.agg #[h]) "Implements").run Tryz.prog w = .ok (207, .agg #[h]) w := by kernel_rfl
theorem Si (h : Value) (w : World) : (Go.method 373 199 (.agg #[h]) "AssignableTo").run Tryz.prog w = .ok (204, .agg #[h]) w := by kernel_rfl
theorem K4 (w : World) : (ReflectliteType.method ReflectliteType.elem #[.agg #[.pointer (some ⟨6, 122, none⟩)]]).run Tryz.prog w = .ok (.iface 199 (.agg #[.pointer (some ⟨6, 120, none⟩)])) w := by kernel_rfl
theorem fC (w : World) : (ReflectliteType.relation "Implements" ReflectliteType.implements_ #[.agg #[.pointer (some ⟨6, 120, none⟩)], .iface 199 (.agg #[.pointer (some ⟨6, 78, none⟩)])]).run Tryz.prog w = .ok (.bool true) w := by kernel_rfl
theorem rV (v : Value) (w : World) : (ReflectliteType.typeOf #[.iface 120 v]).run Tryz.prog w = .ok (.iface 199 (.agg #[.pointer (some ⟨6, 120, none⟩)])) w := by kernel_rfl
theorem fD (w : World) : (ReflectliteType.relation "AssignableTo" ReflectliteType.assignableTo #[.agg #[.pointer (some ⟨6, 120, none⟩)], .iface 199 (.agg #[.pointer (some ⟨6, 120, none⟩)])]).run Tryz.prog w = .ok (.bool true) w := by kernel_rfl
theorem oR (k : Int) (w : World) : (ReflectliteValue.unpack (.iface 120 (.agg #[.int .i64 k]))).run Tryz.prog w
    = .ok (.agg #[.pointer (some ⟨6, 120, none⟩), .pointer (some ⟨w.heap.size, 0, none⟩), .int .u64 153]) (w.alloc (.cells #[.int .i64 k] 120)) := by kernel_rfl
theorem rW (w : World) : (Rtype.elem? 122).run Tryz.prog w = .ok (some 120) w := by kernel_rfl
theorem AN3 (p : Addr) (w : World) : (ReflectliteValue.mk 120 p ReflectliteValue.flagAddr).run Tryz.prog w = .ok (.agg #[.pointer (some ⟨6, 120, none⟩), .pointer (some p), .int .u64 409]) w := by kernel_rfl
theorem xS (a p : Addr) (W : World) (ha : W.cell? a = some (.pointer (some p))) :
    (ReflectliteValue.method (ReflectliteValue.valueError "reflectlite.Value.Elem" 0) ReflectliteValue.elem #[.agg #[.pointer (some ⟨6, 122, none⟩), .pointer (some a), .int .u64 150]]).run Tryz.prog W
      = .ok (.agg #[.pointer (some ⟨6, 120, none⟩), .pointer (some p), .int .u64 409]) W := by
  rw [K3];simp only [Sem.run_bind, iW, Result.andThen];simp [ReflectliteValue.elem, loadVar, isAgg, underlying, underlying122, ha, Result.andThen, rW, AN3]
theorem AN4 (v x : Value) : ReflectliteValue.set #[v, x] = (do
    let (some (dst, a, fl), some (src, b, _)) := (← ReflectliteValue.parts v, ← ReflectliteValue.parts x)
      | unsupported (.noEntry "extern/(internal/reflectlite.Value).Set.zeroValue")
    if fl / ReflectliteValue.flagAddr % 2 == 0 then unsupported (.noEntry "extern/(internal/reflectlite.Value).Set.unaddressable")
    let val ← loadVar src b
    if ← Rtype.directlyAssignable dst src then storeVar dst a val
    else if ← Rtype.implements dst src then
      if (← Rtype.kind src) == 20 then
        match val with
        | .nilIface => unsupported (.noEntry "extern/reflectlite: a nil value of one interface type handed on as a value of another")
        | _ => storeVar dst a val
      else storeVar dst a (.iface src val)
    else panicString ("reflectlite.Set: value of type " ++ (← Rtype.spelt src) ++ " is not assignable to type " ++ (← Rtype.spelt dst))
    pure (.tuple #[])) := rfl
theorem xU (a : Addr) (w : World) : (ReflectliteValue.parts (.agg #[.pointer (some ⟨6, 120, none⟩), .pointer (some a), .int .u64 409])).run Tryz.prog w = .ok (some (120, a, 409)) w := by kernel_rfl
theorem xV (a : Addr) (w : World) : (ReflectliteValue.parts (.agg #[.pointer (some ⟨6, 120, none⟩), .pointer (some a), .int .u64 153])).run Tryz.prog w = .ok (some (120, a, 153)) w := by kernel_rfl
theorem rX (w : World) : (Rtype.directlyAssignable 120 120).run Tryz.prog w = .ok true w := by kernel_rfl
theorem K5 (w : World) : (sizeOf 120).run Tryz.prog w = .ok 1 w := by kernel_rfl
theorem AA7 (w : World) : (isAgg 120).run Tryz.prog w = .ok true w := by kernel_rfl
theorem AA8 (ta b : Addr) (k : Int) (old : Value) (W : World) (hb : W.cell? b = some (.int .i64 k)) (hsb : b.spot = none) (ht : W.cell? ta = some old) (hst : ta.spot = none) (hf : W.frozen? ta = false) :
    (ReflectliteValue.set #[.agg #[.pointer (some ⟨6, 120, none⟩), .pointer (some ta), .int .u64 409], .agg #[.pointer (some ⟨6, 120, none⟩), .pointer (some b), .int .u64 153]]).run Tryz.prog W
      = .ok (.tuple #[]) (W.setCell ta (.int .i64 k)) := by
  have hl : (loadCells b 1).run Tryz.prog W = .ok #[.int .i64 k] W := run_loadCells_list (P := Tryz.prog) W b [.int .i64 k] (fun j v hj => by
    rcases j with _ | j
    · cases hj
      simpa [Addr.add] using hb
    · simp at hj)
  rw [AN4];simp only [Sem.run_bind, xU, xV, Result.andThen];simp [ReflectliteValue.flagAddr, loadVar, AA7, K5, hl, Result.andThen, rX, storeVar, Value.cells, storeCells, Addr.add];rw [run_store Tryz.prog W ta _ _ (by rfl)];simp [ht, hf]
set_option maxHeartbeats 4000000 in
theorem AN5 (k : Int) (t : Addr) (old : Value) (w : World) (hg : w.cell? ⟨0, 0, none⟩ = some (.iface 199 (.agg #[.pointer (some ⟨6, 78, none⟩)]))) (ht0 : w.cell? t = some old) (hst : t.spot = none) (hf0 : w.frozen? t = false) :
    Calls Tryz.prog 76 #[.iface 120 (.agg #[.int .i64 k]), .iface 122 (.pointer (some t))] w fun ev w' => ev = .returned (.bool true) ∧ w' = ((((w.alloc (.cells #[.pointer (some t)] 122)).alloc (.cells #[.pointer (some ⟨6, 122, none⟩), .pointer (some ⟨w.heap.size, 0, none⟩), .int .u64 150] 169)).alloc (.cells #[.pointer (some ⟨6, 122, none⟩), .pointer (some ⟨w.heap.size, 0, none⟩), .int .u64 150] 169)).alloc (.cells #[.int .i64 k] 120)).setCell t (.int .i64 k) := by
  have h6 := @run_callFunc_extern Tryz.prog 116 _ (fun args => ReflectliteValue.unpack (args.getD 0 (.tuple #[]))) func116 z5 z5 z5 z5;have h7 := @run_callFunc_extern Tryz.prog 117 _ (ReflectliteValue.methodAny (ReflectliteValue.valueError "reflectlite.Value.Type" 0) (fun t _ _ _ => ReflectliteType.toType t)) func117 z5 z5 z5 z5;have h8 := @run_callFunc_extern Tryz.prog 118 _ (ReflectliteValue.method (ReflectliteValue.valueError "reflectlite.Value.IsNil" 0) ReflectliteValue.isNil) func118 z5 z5 z5 z5;have h27 := @run_callFunc_extern Tryz.prog 196 _ (ReflectliteType.abiMethod fun t => do pure (.int .u8 (← Rtype.kind t))) func196 z5 z5 z5 z5;have h37 := @run_callFunc_extern Tryz.prog 206 _ (ReflectliteType.method ReflectliteType.elem) func206 z5 z5 z5 z5;have h38 := @run_callFunc_extern Tryz.prog 207 _ (ReflectliteType.relation "Implements" ReflectliteType.implements_) func207 z5 z5 z5 z5;have h10 := @run_callFunc_extern Tryz.prog 148 _ ReflectliteType.typeOf func148 z5 z5 z5 z5;have h35 := @run_callFunc_extern Tryz.prog 204 _ (ReflectliteType.relation "AssignableTo" ReflectliteType.assignableTo) func204 z5 z5 z5 z5;have h11 := @run_callFunc_extern Tryz.prog 149 _ (ReflectliteValue.method (ReflectliteValue.valueError "reflectlite.Value.Elem" 0) ReflectliteValue.elem) func149 z5 z5 z5 z5;have h12 := @run_callFunc_extern Tryz.prog 150 _ ReflectliteValue.set func150 z5 z5 z5 z5;have tO := rV;have mA := Si;have a25 := fD;have v25 := oR;have f6 := oQ;have f7 := K0;have mK := gS;have mE := gT;have mI := Vs;have k27 := K1;have k25 := K2;have e27 := K4;have i25 := fC;have n8 := xQ ⟨w.heap.size, 0, none⟩ t ((w.alloc (.cells #[.pointer (some t)] 122)).alloc (.cells #[.pointer (some ⟨6, 122, none⟩), .pointer (some ⟨w.heap.size, 0, none⟩), .int .u64 150] 169)) Gu;have hlt : 0 < w.heap.size := by
    rcases Nat.lt_or_ge 0 w.heap.size with h | h
    · exact h
    · simp [World.cell?, Array.getElem?_eq_none h] at hg
  have hg2 : ((w.alloc (.cells #[.pointer (some t)] 122)).alloc (.cells #[.pointer (some ⟨6, 122, none⟩), .pointer (some ⟨w.heap.size, 0, none⟩), .int .u64 150] 169)).cell? ⟨0, 0, none⟩ = some (.iface 199 (.agg #[.pointer (some ⟨6, 78, none⟩)])) := by
    rw [World.cell?_alloc_lt _ _ ⟨0, 0, none⟩ (by first | (simp; done) | (simp; omega)), World.cell?_alloc_lt _ _ ⟨0, 0, none⟩ hlt]; exact hg
  have htl : t.block < w.heap.size := by
    rcases Nat.lt_or_ge t.block w.heap.size with h | h
    · exact h
    · simp [World.cell?, Array.getElem?_eq_none h] at ht0
  have el := xS ⟨w.heap.size, 0, none⟩ t (((w.alloc (.cells #[.pointer (some t)] 122)).alloc (.cells #[.pointer (some ⟨6, 122, none⟩), .pointer (some ⟨w.heap.size, 0, none⟩), .int .u64 150] 169)).alloc (.cells #[.pointer (some ⟨6, 122, none⟩), .pointer (some ⟨w.heap.size, 0, none⟩), .int .u64 150] 169)) (by rw [World.cell?_alloc_lt _ _ ⟨w.heap.size, 0, none⟩ dA]; simp);have st := AA8 t ⟨w.heap.size + 1 + 1 + 1, 0, none⟩ k old ((((w.alloc (.cells #[.pointer (some t)] 122)).alloc (.cells #[.pointer (some ⟨6, 122, none⟩), .pointer (some ⟨w.heap.size, 0, none⟩), .int .u64 150] 169)).alloc (.cells #[.pointer (some ⟨6, 122, none⟩), .pointer (some ⟨w.heap.size, 0, none⟩), .int .u64 150] 169)).alloc (.cells #[.int .i64 k] 120))
    (by rw [World.cell?_alloc_at _ _ _ _ Gu]; rfl) rfl
    (by rw [World.cell?_alloc_lt _ _ t (by first | (simp; done) | (simp; omega)), World.cell?_alloc_lt _ _ t dA, World.cell?_alloc_lt _ _ t dA, World.cell?_alloc_lt _ _ t htl]; exact ht0) hst
    (by rw [World.frozen?_alloc_old _ _ t dA, World.frozen?_alloc_old _ _ t dA, World.frozen?_alloc_old _ _ t dA, World.frozen?_alloc_old _ _ t (Nat.ne_of_lt htl)]; exact hf0)
  go_enter func76, ntmps76
  go_wp2
  refine wp_loop_rounds 1 ?_;rw [rounds_succ]
  go_wp2
  go_ret
  exact ⟨rfl, rfl⟩
theorem K6 (w : World) {k : Int} {r : Nat} {old : Value} {T : TypeId} (hg : w.cell? ⟨0, 0, none⟩ = some (.iface 199 (.agg #[.pointer (some ⟨6, 78, none⟩)]))) (hr : w.heap[r]? = some (.cells [old].toArray T)) :
    Calls Tryz.prog 76 [.iface 120 (.agg [.int .i64 k].toArray), .iface 122 (.pointer (some ⟨r, 0, none⟩))].toArray w fun e w' => e = .returned (.bool true) ∧ Tr w w' [(r, .cells [old].toArray T)] [(r, .cells [Value.int .i64 k].toArray T)] := by
  have hlt := (Array.getElem?_eq_some_iff.1 hr).1;refine (AN5 k ⟨r, 0, none⟩ old w hg (by simp [World.cell?, hr]) rfl (by simp [World.frozen?, hr])).mono ?_;rintro e w' ⟨rfl, rfl⟩;have hx : ∀ (o1 o2 o3 o4 : Obj) (j : Nat), j < w.heap.size → ((((w.alloc o1).alloc o2).alloc o3).alloc o4).heap[j]? = w.heap[j]? := fun o1 o2 o3 o4 j hj => by
    rw [Below.heap_alloc _ _ j dA, Below.heap_alloc _ _ j dA, Below.heap_alloc _ _ j dA, Below.heap_alloc _ _ j hj]
  refine ⟨rfl, rfl, rfl, rfl, ?_, fun j hj hk => ?_, fun p hp => ?_, fun p hp => .inl ?_, by simp [keys]⟩
  · simp [World.setCell]; omega
  · rw [Below.heap_setCell _ _ _ j (fun e => hk (by subst e; simp [keys]))];exact hx _ _ _ _ j hj
  · have : p = (r, .cells [Value.int .i64 k].toArray T) := by simpa using hp
    subst this;have h0 := hx (.cells #[.pointer (some ⟨r, 0, none⟩)] 122) (.cells #[.pointer (some ⟨6, 122, none⟩), .pointer (some ⟨w.heap.size, 0, none⟩), .int .u64 150] 169) (.cells #[.pointer (some ⟨6, 122, none⟩), .pointer (some ⟨w.heap.size, 0, none⟩), .int .u64 150] 169) (.cells #[.int .i64 k] 120) r hlt;rw [hr] at h0;simp only [World.setCell, Array.getElem?_modify, if_true];rw [h0];simp
  · have : p = (r, .cells [Value.int .i64 k].toArray T) := by simpa using hp
    subst this;simp [keys]
end Go.Proofs.YtopjaeoklkpcpaaGreatDoor.Jd

namespace Go.Proofs.YtopjaeoklkpcpaaGreatDoor.Jd
open Go.Proofs.Tryz
open Go.Proofs
open Go.RowKit (Below)
set_option maxRecDepth 100000
set_option maxHeartbeats 8000000
set_option linter.unusedVariables false
set_option linter.unusedSimpArgs false
theorem K7 : Bq Tryz.prog 120 0 0 := fun r k w => by simp [Instr.fieldAt, Instr.sureAddr, fieldPlace, Bh]
theorem xW (w : World) (hG : Gl w) : Jc Tryz.prog 42 [Value.nilIface] w (vi 0) := by
 have hF := Is.refl 0;refine enter func42 ntmps42 (h := ?_);refine Ry ?_;refine Aj Af (Dt (l := [_]) zeroValue120) (k := fun r1 p4 => ?_);refine Jl ?_;refine Z5 ?_;refine Ah (nU underlying122) (k := ?_);refine Fu (args := [Value.nilIface, (Value.iface 122 (Value.pointer (some ⟨r1, 0, none⟩)))]) (Ai call76) (fun w1 hw1 => J9 w1) (k := ?_);refine Z0 ?_;refine Ha rfl ?_;refine Xv ?_;refine bV ?_;refine Ad results42 z1 (fun w1 hw1 => ?_);exact ⟨(by rfl), hw1.ext_out⟩

theorem xX (w : World) {e_ : Int} (hG : Gl w) : Jc Tryz.prog 42 [(Value.iface 120 (Value.agg [(vi e_)].toArray))] w (vi e_) := by
 have hF := Is.refl e_;refine enter func42 ntmps42 (h := ?_);refine Ry ?_;refine Aj Af (Dt (l := [_]) zeroValue120) (k := fun r1 p4 => ?_);refine Jl ?_;refine Z5 ?_;refine Ah (nU underlying122) (k := ?_);refine Hd (args := [(Value.iface 120 (Value.agg [(vi e_)].toArray)), (Value.iface 122 (Value.pointer (some ⟨r1, 0, none⟩)))]) (Ai call76) (fun w1 hw1 => K6 w1 (hG.ext hw1.ext_out).ety (hw1.own _ me)) (k := ?_);rintro cy cr cz l9 ⟨p9, vx⟩;refine ⟨_, _, p9, (l9.perm q0).tr vx, ?_⟩;refine gG ?_;refine Ah (Al K7) (k := ?_);refine Ah (Ca isAgg40) (k := ?_);refine Qa ?_;refine Ad results42 z1 (fun w1 hw1 => ?_);exact ⟨(by rfl), hw1.ext_out⟩

end Go.Proofs.YtopjaeoklkpcpaaGreatDoor.Jd

namespace Go.Proofs.YtopjaeoklkpcpaaGreatDoor.Jd
open Go.Proofs.Tryz
open Go.Proofs
open Go.RowKit (Below)
set_option maxRecDepth 100000
set_option maxHeartbeats 8000000
set_option linter.unusedVariables false
set_option linter.unusedSimpArgs false


theorem rY (w : World) {s_a : Option Addr} {s_c : Nat} {s : List (Aa × TA)} (h_s : Sl w Cn 8 s_a s) (n_s : s.length ≤ 1000000) : Calls Tryz.prog 115 (List.toArray [(vs s_a s.length s_c)]) w fun e w2 => ∃ a1 : Option Addr, ∃ c1 : Nat, ∃ B1 : An, e = .returned (vs a1 s.length c1) ∧ Dj w w2 B1 ∧ Bg Cn 8 52 a1 c1 B1 s := by
 have hF := Is.refl s;refine enter func115 ntmps115 (h := ?_);refine Sb ?_;refine Ah (Ym runUnderlying26) (k := ?_);refine Z0 ?_;refine Cx rfl (fun a9 => ?_) (fun a9 => ?_)
 ·refine Bp ?_;refine Qc ?_;refine Ad results115 z1 (fun w1 hw1 => ?_);have d7 : ([] : List (Aa × TA)) = s := by (first | rfl | (exact Hv h_s bQ))
  have t8 : 0 = s.length := by first | (rw [← d7]; done) | (rw [← d7]; first | rfl | (simp; done) | (simp only [List.length_append, List.length_take, List.length_drop, List.length_set, List.length_replicate, List.length_cons, List.length_nil, List.length_map, Dc, Db]; omega) | (simp; omega))
  exact ⟨none, 0, [], lQ, (hw1.fresh_out.sub Gx), (d7 ▸ Bg.nil)⟩
 refine Nm ?_;refine Aj Af (Fk (l := []) runUnderlying26 sizeOf52 zeroValue52) (k := fun r1 p4 => ?_);refine Cr ?_;refine Ba s (List.nil_append _) Dy underlying26 Am Bg.nil (List.Perm.refl _) (Bv.of_base h_s) ⟨by omega, by omega⟩ (n := 0) (m := s.length) (k := fun ax1 cx1 bc m7 => ?_);refine Z9 ?_;refine Ad results115 z1 (fun w1 hw1 => ?_);have d7 : s = s := by (first | rfl | (exact Hv h_s bQ))
 have t8 : s.length = s.length := by first | (rw [← d7]; done) | (rw [← d7]; first | rfl | (simp; done) | (simp only [List.length_append, List.length_take, List.length_drop, List.length_set, List.length_replicate, List.length_cons, List.length_nil, List.length_map, Dc, Db]; omega) | (simp; omega))
 exact ⟨ax1, cx1, bc, lQ, (Bd (L := bc) (hw1.perm (List.Perm.refl _)) rfl.symm), (d7 ▸ m7)⟩

theorem oS (w : World) {s_a : Option Addr} {s_c : Nat} {s_B : An} {s : List (Aa × TA)} {i : Int} {j : Int} (o_s : Bg Cn 8 52 s_a s_c s_B s) (b_s : ∀ p ∈ s_B, w.heap[p.1]? = some p.2) (n_s : s.length ≤ 1000000) (hi : 0 ≤ i ∧ i < j ∧ j ≤ s.length) : Calls Tryz.prog 114 (List.toArray [(vs s_a s.length s_c), (vi i), (vi j)]) w fun e w2 => ∃ a1 : Option Addr, ∃ c1 : Nat, ∃ B1 : An, e = .returned (vs a1 ((delL s i.toNat j.toNat).length) c1) ∧ Tr w w2 s_B B1 ∧ Bg Cn 8 52 a1 c1 B1 (delL s i.toNat j.toNat) := by
 have hF := Is.refl (delL s i.toNat j.toNat);have hiN : i.toNat < j.toNat ∧ j.toNat ≤ s.length := by omega
 have hMk : ∀ k ∈ keys s_B, k < w.heap.size := fun k hk => by
  obtain ⟨o, ho⟩ := Jg hk;exact (Array.getElem?_eq_some_iff.1 (b_s _ ho)).1
 have a15 := o_s.le';refine qT (keys s_B) (s_B ++ []) (by simpa using b_s) (fun p hp => Qi (by simpa using hp)) (by simpa using o_s.nd) func114 ntmps114 (h := ?_);refine Zw ?_;refine Qv ?_;refine pQ ?_;refine qR ?_;have a16 := o_s.le';refine Ah (Tg (n := s.length) (c := s_c) (i := i) (i2 := j) (i3 := ((s.length : Nat) : Int)) i.toNat j.toNat s.length (j.toNat - i.toNat) runUnderlying26 sizeOf52 (hlo := z3) (hhi := z3) (hmx := z3) (hm := rfl)) (k := ?_);refine Jl ?_;refine Qv ?_;refine qJ ?_;refine Av rfl (fun b9 => ?_) (fun b9 => ?_)
 ·exfalso;omega
 refine Xv ?_;refine Z5 ?_;refine qR ?_;refine AU3 ?_;refine Zv ?_;have hl3 : (s.take i.toNat).length = i.toNat := by rw [List.length_take]; omega
 have hl3c := o_s.le';refine Be (Dv (s.take i.toNat).length runUnderlying26 (fun w => ⟨_, sizeOf52 w⟩) (hm := z4) (hi := z4)) (k := ?_);refine Zv ?_;have b45 := o_s.le';have a14 : (s.drop j.toNat).length = s.length - j.toNat := List.length_drop;refine Be (Ek (n := s.length) (c := s_c) (i := j) j.toNat (s.drop j.toNat).length runUnderlying26 sizeOf52 (hlo := z3) (hnc := Jz) (hm := z6)) (k := ?_);refine bE (n := (s.take i.toNat).length) (m := (s.drop j.toNat).length) ((s.take i.toNat) ++ (s.drop j.toNat)) rfl Dy underlying26 Am (o_s.take Am i.toNat) q0 (Bv.off (o_s.slj Am (by intro p hp; first | exact hp | (simp [hp]; done))) j.toNat s_c Jz) Vi (k := fun jp ao => ?_);refine uS ?_;refine Mf (nA nE) ?_;refine Z0 ?_;refine Qv ?_;refine qR ?_;refine Cr ?_;have a17 := ao.le';refine Ah (bC (n := ((s.take i.toNat) ++ (s.drop j.toNat)).length) (c := s_c) (i := (((((s.take i.toNat) ++ (s.drop j.toNat)).length) : Nat) : Int)) (i2 := ((s.length : Nat) : Int)) (((s.take i.toNat) ++ (s.drop j.toNat)).length) s.length (s.length - (((s.take i.toNat) ++ (s.drop j.toNat)).length)) runUnderlying26 sizeOf52 (hlo := z3) (hhi := z3) (hm := rfl)) (k := ?_);refine bD (dn := (s.length - (((s.take i.toNat) ++ (s.drop j.toNat)).length))) (x0 := default) (((s.take i.toNat) ++ (s.drop j.toNat)).length) Dy zeroValue52 rfl underlying26 Am ao q0 Vi Vi (kk := fun sw fq => ?_);refine Om ?_;refine Z9 ?_;refine Ad results114 z1 (fun w1 hw1 => ?_);have d7 : ((s.take i.toNat) ++ (s.drop j.toNat)) = (delL s i.toNat j.toNat) := by rfl
 have t8 : ((s.take i.toNat) ++ (s.drop j.toNat)).length = (delL s i.toNat j.toNat).length := by first | (rw [← d7]; done) | (rw [← d7]; first | rfl | (simp; done) | (simp only [List.length_append, List.length_take, List.length_drop, List.length_set, List.length_replicate, List.length_cons, List.length_nil, List.length_map, Dc, Db]; omega) | (simp; omega))
 exact ⟨s_a, s_c, sw, lQ, ((hw1.perm (List.Perm.refl _)).tr_out.sub z50), (d7 ▸ fq)⟩

theorem iX (w : World) {n_ : Int} (hi : 0 ≤ n_ ∧ n_ ≤ 1000000) : Calls Tryz.prog 127 (List.toArray [(vs none 0 0), (vi n_)]) w fun e w2 => ∃ a1 : Option Addr, ∃ c1 : Nat, ∃ B1 : An, e = .returned (vs a1 (([] : List (Aa × TA)).length) c1) ∧ Dj w w2 B1 ∧ Bg Cn 8 52 a1 c1 B1 ([] : List (Aa × TA)) := by
 have hF := Is.refl ([] : List (Aa × TA));refine enter func127 ntmps127 (h := ?_);refine Sb ?_;refine fN ?_;refine Av rfl (fun a9 => ?_) (fun a9 => ?_)
 ·exfalso;omega
 refine Kx ?_;refine Qv ?_;refine Ah (E3 runUnderlying26) (k := ?_);refine Cr ?_;refine qR ?_;refine dH ?_;refine dH ?_;refine Lp ?_;refine Ah Ka (k := ?_);refine Z0 ?_;refine Av rfl (fun b9 => ?_) (fun b9 => ?_);rotate_left
 ·refine Bt ?_;refine Hq ?_;refine Z5 ?_;refine Z9 ?_;refine Ad results127 z1 (fun w1 hw1 => ?_);have d7 : ([] : List (Aa × TA)) = ([] : List (Aa × TA)) := by (first | rfl | simp)
  have t8 : 0 = ([] : List (Aa × TA)).length := by first | (rw [← d7]; done) | (rw [← d7]; first | rfl | (simp; done) | (simp only [List.length_append, List.length_take, List.length_drop, List.length_set, List.length_replicate, List.length_cons, List.length_nil, List.length_map, Dc, Db]; omega) | (simp; omega))
  exact ⟨none, 0, [], lQ, (hw1.fresh_out.sub Gx), (d7 ▸ Bg.nil)⟩
 refine jR ?_;refine Ah (E3 runUnderlying26) (k := ?_);have hl3 : (([] : List (Aa × TA)).take 0).length = 0 := by rw [List.length_take]; omega
 refine Ah (Dv (([] : List (Aa × TA)).take 0).length runUnderlying26 (fun w => ⟨_, sizeOf52 w⟩) (hm := z4) (hi := z4)) (k := ?_);refine Cr ?_;refine dZ (i := (n_ - 0)) (n := (([] : List (Aa × TA)).take 0).length) (c := 0) (x0 := default) (xs := (([] : List (Aa × TA)).take 0)) (m := (n_ - 0).toNat) Dy underlying26 underlying3 Am rfl (Bv.nilj.take 0) z3 z3 z3 ⟨by first | exact ix, by first | exact ix⟩ z4 (k := fun ax1 cx1 bc m7 => ?_);refine Cr ?_;refine qR ?_;have hl4 : (((([] : List (Aa × TA)).take 0) ++ List.replicate ((n_ - 0).toNat) default).take 0).length = 0 := by rw [List.length_take]; omega
 have hl4c := m7.le';refine Ah (Dv (((([] : List (Aa × TA)).take 0) ++ List.replicate ((n_ - 0).toNat) default).take 0).length runUnderlying26 (fun w => ⟨_, sizeOf52 w⟩) (hm := z4) (hi := z4)) (k := ?_);refine Lp ?_;refine Z9 ?_;refine Ad results127 z1 (fun w1 hw1 => ?_);have d7 : (((([] : List (Aa × TA)).take 0) ++ List.replicate ((n_ - 0).toNat) default).take 0) = ([] : List (Aa × TA)) := by (first | rfl | simp)
 have t8 : (((([] : List (Aa × TA)).take 0) ++ List.replicate ((n_ - 0).toNat) default).take 0).length = ([] : List (Aa × TA)).length := by first | (rw [← d7]; done) | (rw [← d7]; first | rfl | (simp; done) | (simp only [List.length_append, List.length_take, List.length_drop, List.length_set, List.length_replicate, List.length_cons, List.length_nil, List.length_map, Dc, Db]; omega) | (simp; omega))
 exact ⟨ax1, cx1, bc, lQ, (Bd (L := bc) (hw1.perm (List.Perm.refl _)) rfl.symm), (d7 ▸ (m7.take Am 0))⟩

theorem AA9 (w : World) {s0a : Option Addr} {s0n : Nat} {s0c : Nat} {s1a : Option Addr} {s1n : Nat} {s1c : Nat} {s2a : Option Addr} {s2n : Nat} {s2c : Nat} {q_ : Int} {l_a : Option Addr} {l_c : Nat} {l : List (Aa × TA)} {x : Aa × TA} (h_l : Sl w Cn 8 l_a l) (n_l : l.length ≤ 1000) (k_l : l.length ≤ l_c) : Calls Tryz.prog 51 (List.toArray [(Value.agg [(vs s0a s0n s0c), (vs s1a s1n s1c), (vs s2a s2n s2c), (vs l_a l.length l_c), (vi q_)].toArray), (Value.agg [(vi x.1.handle.slot), (vi x.1.handle.gen), (vt x.1.name), (vi x.1.state), (vi x.1.version), (vs x.2.ra x.1.rules.length x.2.rc), (vs x.2.ca x.1.creds.length x.2.cc), (vi x.1.deadline)].toArray)]) w fun e w2 => ∃ a1 : Option Addr, ∃ c1 : Nat, ∃ B1 : An, e = .returned (Value.agg [(vs s0a s0n s0c), (vs s1a s1n s1c), (vs s2a s2n s2c), (vs a1 ((xP l x).length) c1), (vi q_)].toArray) ∧ Dj w w2 B1 ∧ Bg Cn 8 52 a1 c1 B1 (xP l x) := by
 have hF := Is.refl (xP l x);refine enter func51 ntmps51 (h := ?_);refine Z2 ?_;refine Aj Af aW (k := fun r1 p4 => ?_);refine Aj Af z68 (k := fun r2 bv => ?_);refine Aj Af Ln (k := fun r3 iu => ?_);refine Z0 ?_;refine Zw ?_;refine O0 ?_;refine Fi (σ1 := Nat) (σ2 := Nat) (fun n_2 at_1 => ((r3, oc [(vs none 0 0), (vs none 0 0), (vs none 0 0), (vs none 0 0), (vi 0)] 28) :: ((r2, oc [(vi x.1.handle.slot), (vi x.1.handle.gen), (vt x.1.name), (vi x.1.state), (vi x.1.version), (vs x.2.ra x.1.rules.length x.2.rc), (vs x.2.ca x.1.creds.length x.2.cc), (vi x.1.deadline)] 52) :: ((r1, oc [(vs s0a s0n s0c), (vs s1a s1n s1c), (vs s2a s2n s2c), (vs l_a l.length l_c), (vi q_)] 28) :: [])))) (fun n_2 at_1 => [(2, (Value.pointer (some ⟨r1, 0, none⟩))), (3, (Value.pointer (some ⟨r2, 0, none⟩))), (4, (Value.pointer (some ⟨r3, 0, none⟩))), (5, (vi ((at_1 : Nat) : Int)))]) (fun n_2 at_1 => l.length - at_1 < n_2 ∧ Is (Vc l x (l.length + 1) 0) (Vc l x n_2 at_1) ∧ at_1 ≤ l.length) (fun n_2 at_1 => n_2) (l.length + 1) 0 ?_ se (List.Perm.refl _) ?_
 ·exact ⟨Nat.lt_succ_self _, Is.refl _, Na⟩
 ·rintro (_ | n_2) at_1 ⟨hm4, j4, hi5⟩
  ·omega
  refine Fj ?_;refine Fj ?_;refine Fg Cy 18 [(true, 0), (true, 1), (true, 2), (true, 3), (true, 4), (true, 5), (true, 6), (true, 7), (true, 8), (true, 9), (true, 10), (true, 11), (true, 12), (true, 13), (true, 14), (true, 15), (true, 16), (true, 17)] z5 ?_;refine Gg ?_;refine Z87 ?_;refine Be (Fv runUnderlying26) (k := ?_);refine mN ?_;refine Fh 12 rfl (fun a9 => ?_) (fun a9 => ?_);rotate_left
  ·refine Bn 11 rfl ?_;refine Vk ?_;refine pT ?_;refine Vj ?_;refine Z2 ?_;refine jV ?_;have a12 : (l.drop at_1).length = l.length - at_1 := List.length_drop;refine AR2 ?_;refine Fj ?_;refine AF7 ?_;refine Be (Fv runUnderlying26) (k := ?_);refine Be Ka (k := ?_);refine Gg ?_;refine Fh 34 rfl (fun m3 => ?_) (fun m3 => ?_);rotate_left
   ·refine Bn 9 rfl ?_;refine Vk ?_;refine Ha rfl ?_;refine Kx ?_;refine uX ?_;refine Zv ?_;have hl31 : (l.take at_1).length = at_1 := by rw [List.length_take]; omega
    refine vV ?_;refine Sy Af sY (k := fun ic pf => ?_);refine Sy Af z41 (k := fun xp rg => ?_);refine vD ?_;refine cA ?_;refine Se ?_;refine Av rfl (fun cm => ?_) (fun cm => ?_)
    ·exfalso;omega
    refine pP ?_;refine bR ?_;refine Se ?_;refine Av rfl (fun gx => ?_) (fun gx => ?_)
    ·exfalso;omega
    refine pP ?_;refine bS ?_;refine Se ?_;refine Av rfl (fun di => ?_) (fun di => ?_)
    ·exfalso;omega
    refine Ya ?_;refine Vj ?_;refine O7 ?_;rintro a88 zr a90 li ⟨zl, zp, uo, nt, wm, oe⟩;refine ⟨_, _, nt, li.fresh wm, ?_⟩;refine cA ?_;refine Sf ?_;refine Ba (([] : List (Aa × TA)) ++ (l.take at_1)) rfl Dy underlying26 Am oe q0 ((Bv.of_base h_l).take at_1) ⟨by first | omega | (simp only [List.length_append, List.length_nil, List.length_take, List.length_drop, List.length_cons]; omega), by first | omega | (simp only [List.length_append, List.length_nil, List.length_take, List.length_drop, List.length_cons]; omega)⟩ (n := ([] : List (Aa × TA)).length) (m := (l.take at_1).length) (k := fun ax16 cx16 b06 ot => ?_);have hal16 : (([] : List (Aa × TA)) ++ (l.take at_1)).length = ([] : List (Aa × TA)).length + (l.take at_1).length := by first | rfl | exact List.length_append | simp
    refine Qw ?_;refine bR ?_;refine Sf ?_;refine Ba ((([] : List (Aa × TA)) ++ (l.take at_1)) ++ ([x] : List (Aa × TA))) rfl Dy underlying26 Am ot q0 (Bv.lit (xs := ([x] : List (Aa × TA))) Am) ⟨by first | omega | (simp only [List.length_append, List.length_nil, List.length_take, List.length_drop, List.length_cons]; omega), by first | omega | (simp only [List.length_append, List.length_nil, List.length_take, List.length_drop, List.length_cons]; omega)⟩ (n := (([] : List (Aa × TA)) ++ (l.take at_1)).length) (m := 1) (k := fun ax17 cx17 b07 ou => ?_);have hal17 : ((([] : List (Aa × TA)) ++ (l.take at_1)) ++ ([x] : List (Aa × TA))).length = (([] : List (Aa × TA)) ++ (l.take at_1)).length + 1 := by first | rfl | exact List.length_append | simp
    refine Qw ?_;refine bS ?_;refine Sf ?_;refine Ba (((([] : List (Aa × TA)) ++ (l.take at_1)) ++ ([x] : List (Aa × TA))) ++ (l.drop at_1)) rfl Dy underlying26 Am ou q0 (Bv.off Xt at_1 l_c Jz) ⟨by first | omega | (simp only [List.length_append, List.length_nil, List.length_take, List.length_drop, List.length_cons]; omega), by first | omega | (simp only [List.length_append, List.length_nil, List.length_take, List.length_drop, List.length_cons]; omega)⟩ (n := ((([] : List (Aa × TA)) ++ (l.take at_1)) ++ ([x] : List (Aa × TA))).length) (m := (l.drop at_1).length) (k := fun ax18 cx18 ux ow => ?_);have hal18 : (((([] : List (Aa × TA)) ++ (l.take at_1)) ++ ([x] : List (Aa × TA))) ++ (l.drop at_1)).length = ((([] : List (Aa × TA)) ++ (l.take at_1)) ++ ([x] : List (Aa × TA))).length + (l.drop at_1).length := by first | rfl | exact List.length_append | simp
    refine Qw ?_;refine Wp ?_;refine dF ?_;refine uU ?_;refine Gs ?_;refine pX ?_;refine fW ?_;refine Ad results51 N2 (fun w1 hw1 => ?_);exact ⟨ax18, cx18, ux, (rq (((((hF.rn1 (j4.neg a9)).neg m3).neg cm).neg gx).neg di)), (Bd (L := ux) (hw1.perm (List.Perm.refl _)) rfl), (by rw [(((((hF.rn1 (j4.neg a9)).neg m3).neg cm).neg gx).neg di).eq]; exact ow)⟩
   refine aC ?_;refine AS3 ?_;refine AT7 ?_;refine Bm (Al Ix) (k := ?_);refine mH ?_;refine Bm Gy (k := ?_);refine uY ?_;refine Av rfl (fun y7 => ?_) (fun y7 => ?_);rotate_left
   ·refine Bt ?_;refine Zz ?_;refine uX ?_;refine Zv ?_;have hl27 : (l.take at_1).length = at_1 := by rw [List.length_take]; omega
    refine vV ?_;refine Sy Af sY (k := fun pk pd => ?_);refine Sy Af z41 (k := fun gc pe => ?_);refine vD ?_;refine cA ?_;refine Se ?_;refine Av rfl (fun bk => ?_) (fun bk => ?_)
    ·exfalso;omega
    refine pP ?_;refine bR ?_;refine Se ?_;refine Av rfl (fun al => ?_) (fun al => ?_)
    ·exfalso;omega
    refine pP ?_;refine bS ?_;refine Se ?_;refine Av rfl (fun bu => ?_) (fun bu => ?_)
    ·exfalso;omega
    refine Ya ?_;refine Vj ?_;refine O7 ?_;rintro ya vq yc gb ⟨vd, vl, qn, jz, nv, lc⟩;refine ⟨_, _, jz, gb.fresh nv, ?_⟩;refine cA ?_;refine Sf ?_;refine Ba (([] : List (Aa × TA)) ++ (l.take at_1)) rfl Dy underlying26 Am lc q0 ((Bv.of_base h_l).take at_1) ⟨by first | omega | (simp only [List.length_append, List.length_nil, List.length_take, List.length_drop, List.length_cons]; omega), by first | omega | (simp only [List.length_append, List.length_nil, List.length_take, List.length_drop, List.length_cons]; omega)⟩ (n := ([] : List (Aa × TA)).length) (m := (l.take at_1).length) (k := fun ax13 cx13 uw lg => ?_);have hal13 : (([] : List (Aa × TA)) ++ (l.take at_1)).length = ([] : List (Aa × TA)).length + (l.take at_1).length := by first | rfl | exact List.length_append | simp
    refine Qw ?_;refine bR ?_;refine Sf ?_;refine Ba ((([] : List (Aa × TA)) ++ (l.take at_1)) ++ ([x] : List (Aa × TA))) rfl Dy underlying26 Am lg q0 (Bv.lit (xs := ([x] : List (Aa × TA))) Am) ⟨by first | omega | (simp only [List.length_append, List.length_nil, List.length_take, List.length_drop, List.length_cons]; omega), by first | omega | (simp only [List.length_append, List.length_nil, List.length_take, List.length_drop, List.length_cons]; omega)⟩ (n := (([] : List (Aa × TA)) ++ (l.take at_1)).length) (m := 1) (k := fun ax14 cx14 b05 om => ?_);have hal14 : ((([] : List (Aa × TA)) ++ (l.take at_1)) ++ ([x] : List (Aa × TA))).length = (([] : List (Aa × TA)) ++ (l.take at_1)).length + 1 := by first | rfl | exact List.length_append | simp
    refine Qw ?_;refine bS ?_;refine Sf ?_;refine Ba (((([] : List (Aa × TA)) ++ (l.take at_1)) ++ ([x] : List (Aa × TA))) ++ (l.drop at_1)) rfl Dy underlying26 Am om q0 (Bv.off Xt at_1 l_c Jz) ⟨by first | omega | (simp only [List.length_append, List.length_nil, List.length_take, List.length_drop, List.length_cons]; omega), by first | omega | (simp only [List.length_append, List.length_nil, List.length_take, List.length_drop, List.length_cons]; omega)⟩ (n := ((([] : List (Aa × TA)) ++ (l.take at_1)) ++ ([x] : List (Aa × TA))).length) (m := (l.drop at_1).length) (k := fun ax15 cx15 na oq => ?_);have hal15 : (((([] : List (Aa × TA)) ++ (l.take at_1)) ++ ([x] : List (Aa × TA))) ++ (l.drop at_1)).length = ((([] : List (Aa × TA)) ++ (l.take at_1)) ++ ([x] : List (Aa × TA))).length + (l.drop at_1).length := by first | rfl | exact List.length_append | simp
    refine Qw ?_;refine Wp ?_;refine dF ?_;refine uU ?_;refine Gs ?_;refine pX ?_;refine fW ?_;refine Ad results51 N2 (fun w1 hw1 => ?_);exact ⟨ax15, cx15, na, (rq ((((((hF.rn1 (j4.neg a9)).pos m3).neg y7).neg bk).neg al).neg bu)), (Bd (L := na) (hw1.perm (List.Perm.refl _)) rfl), (by rw [((((((hF.rn1 (j4.neg a9)).pos m3).neg y7).neg bk).neg al).neg bu).eq]; exact oq)⟩
   refine Rx ?_;have a13 : ((l.drop at_1).drop 1).length = (l.drop at_1).length - 1 := List.length_drop;refine AR1 ?_;refine uX ?_;refine Zv ?_;have hl23 : (l.take at_1).length = at_1 := by rw [List.length_take]; omega
   refine vV ?_;refine Sy Af sY (k := fun kr mj => ?_);refine Sy Af z41 (k := fun ui pc => ?_);refine vD ?_;refine cA ?_;refine Se ?_;refine Av rfl (fun ct => ?_) (fun ct => ?_)
   ·exfalso;omega
   refine pP ?_;refine bR ?_;refine Se ?_;refine Av rfl (fun p7 => ?_) (fun p7 => ?_)
   ·exfalso;omega
   refine pP ?_;refine bS ?_;refine Se ?_;refine Av rfl (fun bj => ?_) (fun bj => ?_)
   ·exfalso;omega
   refine Ya ?_;refine AT1 ?_;rintro sc qs si ez ⟨nh, nk, lq, gq, ke, fy⟩;refine ⟨_, _, gq, ez.fresh ke, ?_⟩;refine cA ?_;refine Sf ?_;refine Ba (([] : List (Aa × TA)) ++ (l.take at_1)) rfl Dy underlying26 Am fy q0 ((Bv.of_base h_l).take at_1) ⟨by first | omega | (simp only [List.length_append, List.length_nil, List.length_take, List.length_drop, List.length_cons]; omega), by first | omega | (simp only [List.length_append, List.length_nil, List.length_take, List.length_drop, List.length_cons]; omega)⟩ (n := ([] : List (Aa × TA)).length) (m := (l.take at_1).length) (k := fun ax10 cx10 uu og => ?_);have hal10 : (([] : List (Aa × TA)) ++ (l.take at_1)).length = ([] : List (Aa × TA)).length + (l.take at_1).length := by first | rfl | exact List.length_append | simp
   refine Qw ?_;refine bR ?_;refine Sf ?_;refine Ba ((([] : List (Aa × TA)) ++ (l.take at_1)) ++ ([x] : List (Aa × TA))) rfl Dy underlying26 Am og q0 (Bv.lit (xs := ([x] : List (Aa × TA))) Am) ⟨by first | omega | (simp only [List.length_append, List.length_nil, List.length_take, List.length_drop, List.length_cons]; omega), by first | omega | (simp only [List.length_append, List.length_nil, List.length_take, List.length_drop, List.length_cons]; omega)⟩ (n := (([] : List (Aa × TA)) ++ (l.take at_1)).length) (m := 1) (k := fun ax11 cx11 b04 oh => ?_);have hal11 : ((([] : List (Aa × TA)) ++ (l.take at_1)) ++ ([x] : List (Aa × TA))).length = (([] : List (Aa × TA)) ++ (l.take at_1)).length + 1 := by first | rfl | exact List.length_append | simp
   refine Qw ?_;refine bS ?_;refine Sf ?_;refine Ba (((([] : List (Aa × TA)) ++ (l.take at_1)) ++ ([x] : List (Aa × TA))) ++ ((l.drop at_1).drop 1)) rfl Dy underlying26 Am oh q0 (Bv.off (Bv.off Xt at_1 l_c Jz) 1 (l_c - at_1) Jz) ⟨by first | omega | (simp only [List.length_append, List.length_nil, List.length_take, List.length_drop, List.length_cons]; omega), by first | omega | (simp only [List.length_append, List.length_nil, List.length_take, List.length_drop, List.length_cons]; omega)⟩ (n := ((([] : List (Aa × TA)) ++ (l.take at_1)) ++ ([x] : List (Aa × TA))).length) (m := ((l.drop at_1).drop 1).length) (k := fun ax12 cx12 uv ol => ?_);have hal12 : (((([] : List (Aa × TA)) ++ (l.take at_1)) ++ ([x] : List (Aa × TA))) ++ ((l.drop at_1).drop 1)).length = ((([] : List (Aa × TA)) ++ (l.take at_1)) ++ ([x] : List (Aa × TA))).length + ((l.drop at_1).drop 1).length := by first | rfl | exact List.length_append | simp
   refine Qw ?_;refine Wp ?_;refine dF ?_;refine uU ?_;refine Gs ?_;refine pX ?_;refine fW ?_;refine Ad results51 N2 (fun w1 hw1 => ?_);exact ⟨ax12, cx12, uv, (rq ((((((hF.rn1 (j4.neg a9)).pos m3).pos y7).neg ct).neg p7).neg bj)), (Bd (L := uv) (hw1.perm (List.Perm.refl _)) rfl), (by rw [((((((hF.rn1 (j4.neg a9)).pos m3).pos y7).neg ct).neg p7).neg bj).eq]; exact ol)⟩
  refine AJ5 ?_;refine aC ?_;refine Bm (Cj (n := l.length) runUnderlying26 sizeOf52 at_1 Xt (gD z3) Km) (k := ?_);refine Bm (Md Ix) (k := ?_);refine Bm (Md Jo) (k := ?_);refine Bm (Cb isAgg3 at_1 0 Xt (gD z3)) (k := ?_);refine Bm (Al Ix) (k := ?_);refine mH ?_;refine Bm Nu (k := ?_);refine uY ?_;refine Av rfl (fun b9 => ?_) (fun b9 => ?_)
  ·refine Bt ?_;refine Hq ?_;refine Jm ?_;refine Ch ?_;refine qD ?_;refine Gh ?_;exact Ez n_2 (at_1 + 1) ⟨by omega, ((j4.pos a9).pos b9), z4⟩ (Nat.lt_succ_self _) se (List.Perm.refl _)
  refine Cz ?_;refine Vj ?_;refine Z2 ?_;refine jV ?_;have d67 : (l.drop at_1).length = l.length - at_1 := List.length_drop;refine AR2 ?_;refine Fj ?_;refine AF7 ?_;refine Be (Fv runUnderlying26) (k := ?_);refine Be Ka (k := ?_);refine Gg ?_;refine Fh 34 rfl (fun c8 => ?_) (fun c8 => ?_);rotate_left
  ·refine Bn 9 rfl ?_;refine Vk ?_;refine Ha rfl ?_;refine Kx ?_;refine uX ?_;refine Zv ?_;have hl15 : (l.take at_1).length = at_1 := by rw [List.length_take]; omega
   refine vV ?_;refine Sy Af sY (k := fun r8 ub => ?_);refine Sy Af z41 (k := fun r9 xe => ?_);refine vD ?_;refine cA ?_;refine Se ?_;refine Av rfl (fun k0 => ?_) (fun k0 => ?_)
   ·exfalso;omega
   refine pP ?_;refine bR ?_;refine Se ?_;refine Av rfl (fun t7 => ?_) (fun t7 => ?_)
   ·exfalso;omega
   refine pP ?_;refine bS ?_;refine Se ?_;refine Av rfl (fun j6 => ?_) (fun j6 => ?_)
   ·exfalso;omega
   refine Ya ?_;refine Vj ?_;refine O7 ?_;rintro sb qr sg dp ⟨k9, l4, p8, gp, kc, l8⟩;refine ⟨_, _, gp, dp.fresh kc, ?_⟩;refine cA ?_;refine Sf ?_;refine Ba (([] : List (Aa × TA)) ++ (l.take at_1)) rfl Dy underlying26 Am l8 q0 ((Bv.of_base h_l).take at_1) ⟨by first | omega | (simp only [List.length_append, List.length_nil, List.length_take, List.length_drop, List.length_cons]; omega), by first | omega | (simp only [List.length_append, List.length_nil, List.length_take, List.length_drop, List.length_cons]; omega)⟩ (n := ([] : List (Aa × TA)).length) (m := (l.take at_1).length) (k := fun ax7 cx7 Bx7 mc => ?_);have hal7 : (([] : List (Aa × TA)) ++ (l.take at_1)).length = ([] : List (Aa × TA)).length + (l.take at_1).length := by first | rfl | exact List.length_append | simp
   refine Qw ?_;refine bR ?_;refine Sf ?_;refine Ba ((([] : List (Aa × TA)) ++ (l.take at_1)) ++ ([x] : List (Aa × TA))) rfl Dy underlying26 Am mc q0 (Bv.lit (xs := ([x] : List (Aa × TA))) Am) ⟨by first | omega | (simp only [List.length_append, List.length_nil, List.length_take, List.length_drop, List.length_cons]; omega), by first | omega | (simp only [List.length_append, List.length_nil, List.length_take, List.length_drop, List.length_cons]; omega)⟩ (n := (([] : List (Aa × TA)) ++ (l.take at_1)).length) (m := 1) (k := fun ax8 cx8 zg md => ?_);have hal8 : ((([] : List (Aa × TA)) ++ (l.take at_1)) ++ ([x] : List (Aa × TA))).length = (([] : List (Aa × TA)) ++ (l.take at_1)).length + 1 := by first | rfl | exact List.length_append | simp
   refine Qw ?_;refine bS ?_;refine Sf ?_;refine Ba (((([] : List (Aa × TA)) ++ (l.take at_1)) ++ ([x] : List (Aa × TA))) ++ (l.drop at_1)) rfl Dy underlying26 Am md q0 (Bv.off Xt at_1 l_c Jz) ⟨by first | omega | (simp only [List.length_append, List.length_nil, List.length_take, List.length_drop, List.length_cons]; omega), by first | omega | (simp only [List.length_append, List.length_nil, List.length_take, List.length_drop, List.length_cons]; omega)⟩ (n := ((([] : List (Aa × TA)) ++ (l.take at_1)) ++ ([x] : List (Aa × TA))).length) (m := (l.drop at_1).length) (k := fun ax9 cx9 Bx9 wu => ?_);have hal9 : (((([] : List (Aa × TA)) ++ (l.take at_1)) ++ ([x] : List (Aa × TA))) ++ (l.drop at_1)).length = ((([] : List (Aa × TA)) ++ (l.take at_1)) ++ ([x] : List (Aa × TA))).length + (l.drop at_1).length := by first | rfl | exact List.length_append | simp
   refine Qw ?_;refine Wp ?_;refine dF ?_;refine uU ?_;refine Gs ?_;refine pX ?_;refine fW ?_;refine Ad results51 N2 (fun w1 hw1 => ?_);exact ⟨ax9, cx9, Bx9, (rq (((((hF.rn1 ((j4.pos a9).neg b9)).neg c8).neg k0).neg t7).neg j6)), (Bd (L := Bx9) (hw1.perm (List.Perm.refl _)) rfl), (by rw [(((((hF.rn1 ((j4.pos a9).neg b9)).neg c8).neg k0).neg t7).neg j6).eq]; exact wu)⟩
  refine aC ?_;refine AS3 ?_;refine AT7 ?_;refine Bm (Al Ix) (k := ?_);refine mH ?_;refine Bm Gy (k := ?_);refine uY ?_;refine Av rfl (fun d5 => ?_) (fun d5 => ?_);rotate_left
  ·refine Bt ?_;refine Zz ?_;refine uX ?_;refine Zv ?_;have hl11 : (l.take at_1).length = at_1 := by rw [List.length_take]; omega
   refine vV ?_;refine Sy Af sY (k := fun r6 ql => ?_);refine Sy Af z41 (k := fun r7 xd => ?_);refine vD ?_;refine cA ?_;refine Se ?_;refine Av rfl (fun g9 => ?_) (fun g9 => ?_)
   ·exfalso;omega
   refine pP ?_;refine bR ?_;refine Se ?_;refine Av rfl (fun i0 => ?_) (fun i0 => ?_)
   ·exfalso;omega
   refine pP ?_;refine bS ?_;refine Se ?_;refine Av rfl (fun w4 => ?_) (fun w4 => ?_)
   ·exfalso;omega
   refine Ya ?_;refine Vj ?_;refine O7 ?_;rintro rz qq sf cw ⟨dy, dz, eg, gn, kb, bi⟩;refine ⟨_, _, gn, cw.fresh kb, ?_⟩;refine cA ?_;refine Sf ?_;refine Ba (([] : List (Aa × TA)) ++ (l.take at_1)) rfl Dy underlying26 Am bi q0 ((Bv.of_base h_l).take at_1) ⟨by first | omega | (simp only [List.length_append, List.length_nil, List.length_take, List.length_drop, List.length_cons]; omega), by first | omega | (simp only [List.length_append, List.length_nil, List.length_take, List.length_drop, List.length_cons]; omega)⟩ (n := ([] : List (Aa × TA)).length) (m := (l.take at_1).length) (k := fun ax4 cx4 Bx4 wr => ?_);have hal4 : (([] : List (Aa × TA)) ++ (l.take at_1)).length = ([] : List (Aa × TA)).length + (l.take at_1).length := by first | rfl | exact List.length_append | simp
   refine Qw ?_;refine bR ?_;refine Sf ?_;refine Ba ((([] : List (Aa × TA)) ++ (l.take at_1)) ++ ([x] : List (Aa × TA))) rfl Dy underlying26 Am wr q0 (Bv.lit (xs := ([x] : List (Aa × TA))) Am) ⟨by first | omega | (simp only [List.length_append, List.length_nil, List.length_take, List.length_drop, List.length_cons]; omega), by first | omega | (simp only [List.length_append, List.length_nil, List.length_take, List.length_drop, List.length_cons]; omega)⟩ (n := (([] : List (Aa × TA)) ++ (l.take at_1)).length) (m := 1) (k := fun ax5 cx5 Bx5 oy => ?_);have hal5 : ((([] : List (Aa × TA)) ++ (l.take at_1)) ++ ([x] : List (Aa × TA))).length = (([] : List (Aa × TA)) ++ (l.take at_1)).length + 1 := by first | rfl | exact List.length_append | simp
   refine Qw ?_;refine bS ?_;refine Sf ?_;refine Ba (((([] : List (Aa × TA)) ++ (l.take at_1)) ++ ([x] : List (Aa × TA))) ++ (l.drop at_1)) rfl Dy underlying26 Am oy q0 (Bv.off Xt at_1 l_c Jz) ⟨by first | omega | (simp only [List.length_append, List.length_nil, List.length_take, List.length_drop, List.length_cons]; omega), by first | omega | (simp only [List.length_append, List.length_nil, List.length_take, List.length_drop, List.length_cons]; omega)⟩ (n := ((([] : List (Aa × TA)) ++ (l.take at_1)) ++ ([x] : List (Aa × TA))).length) (m := (l.drop at_1).length) (k := fun ax6 cx6 Bx6 wt => ?_);have hal6 : (((([] : List (Aa × TA)) ++ (l.take at_1)) ++ ([x] : List (Aa × TA))) ++ (l.drop at_1)).length = ((([] : List (Aa × TA)) ++ (l.take at_1)) ++ ([x] : List (Aa × TA))).length + (l.drop at_1).length := by first | rfl | exact List.length_append | simp
   refine Qw ?_;refine Wp ?_;refine dF ?_;refine uU ?_;refine Gs ?_;refine pX ?_;refine fW ?_;refine Ad results51 N2 (fun w1 hw1 => ?_);exact ⟨ax6, cx6, Bx6, (rq ((((((hF.rn1 ((j4.pos a9).neg b9)).pos c8).neg d5).neg g9).neg i0).neg w4)), (Bd (L := Bx6) (hw1.perm (List.Perm.refl _)) rfl), (by rw [((((((hF.rn1 ((j4.pos a9).neg b9)).pos c8).neg d5).neg g9).neg i0).neg w4).eq]; exact wt)⟩
  refine Rx ?_;have d68 : ((l.drop at_1).drop 1).length = (l.drop at_1).length - 1 := List.length_drop;refine AR1 ?_;refine uX ?_;refine Zv ?_;have hl7 : (l.take at_1).length = at_1 := by rw [List.length_take]; omega
  refine vV ?_;refine Sy Af sY (k := fun r4 jl => ?_);refine Sy Af z41 (k := fun r5 qk => ?_);refine vD ?_;refine cA ?_;refine Se ?_;refine Av rfl (fun i7 => ?_) (fun i7 => ?_)
  ·exfalso;omega
  refine pP ?_;refine bR ?_;refine Se ?_;refine Av rfl (fun j0 => ?_) (fun j0 => ?_)
  ·exfalso;omega
  refine pP ?_;refine bS ?_;refine Se ?_;refine Av rfl (fun f9 => ?_) (fun f9 => ?_)
  ·exfalso;omega
  refine Ya ?_;refine AT1 ?_;rintro mq lz mr bf ⟨cp, cq, ln, dg, em, ip⟩;refine ⟨_, _, dg, bf.fresh em, ?_⟩;refine cA ?_;refine Sf ?_;refine Ba (([] : List (Aa × TA)) ++ (l.take at_1)) rfl Dy underlying26 Am ip q0 ((Bv.of_base h_l).take at_1) ⟨by first | omega | (simp only [List.length_append, List.length_nil, List.length_take, List.length_drop, List.length_cons]; omega), by first | omega | (simp only [List.length_append, List.length_nil, List.length_take, List.length_drop, List.length_cons]; omega)⟩ (n := ([] : List (Aa × TA)).length) (m := (l.take at_1).length) (k := fun ax1 cx1 bc m7 => ?_);have hal1 : (([] : List (Aa × TA)) ++ (l.take at_1)).length = ([] : List (Aa × TA)).length + (l.take at_1).length := by first | rfl | exact List.length_append | simp
  refine Qw ?_;refine bR ?_;refine Sf ?_;refine Ba ((([] : List (Aa × TA)) ++ (l.take at_1)) ++ ([x] : List (Aa × TA))) rfl Dy underlying26 Am m7 q0 (Bv.lit (xs := ([x] : List (Aa × TA))) Am) ⟨by first | omega | (simp only [List.length_append, List.length_nil, List.length_take, List.length_drop, List.length_cons]; omega), by first | omega | (simp only [List.length_append, List.length_nil, List.length_take, List.length_drop, List.length_cons]; omega)⟩ (n := (([] : List (Aa × TA)) ++ (l.take at_1)).length) (m := 1) (k := fun ax2 cx2 jp ao => ?_);have hal2 : ((([] : List (Aa × TA)) ++ (l.take at_1)) ++ ([x] : List (Aa × TA))).length = (([] : List (Aa × TA)) ++ (l.take at_1)).length + 1 := by first | rfl | exact List.length_append | simp
  refine Qw ?_;refine bS ?_;refine Sf ?_;refine Ba (((([] : List (Aa × TA)) ++ (l.take at_1)) ++ ([x] : List (Aa × TA))) ++ ((l.drop at_1).drop 1)) rfl Dy underlying26 Am ao q0 (Bv.off (Bv.off Xt at_1 l_c Jz) 1 (l_c - at_1) Jz) ⟨by first | omega | (simp only [List.length_append, List.length_nil, List.length_take, List.length_drop, List.length_cons]; omega), by first | omega | (simp only [List.length_append, List.length_nil, List.length_take, List.length_drop, List.length_cons]; omega)⟩ (n := ((([] : List (Aa × TA)) ++ (l.take at_1)) ++ ([x] : List (Aa × TA))).length) (m := ((l.drop at_1).drop 1).length) (k := fun ax3 cx3 sw fq => ?_);have hal3 : (((([] : List (Aa × TA)) ++ (l.take at_1)) ++ ([x] : List (Aa × TA))) ++ ((l.drop at_1).drop 1)).length = ((([] : List (Aa × TA)) ++ (l.take at_1)) ++ ([x] : List (Aa × TA))).length + ((l.drop at_1).drop 1).length := by first | rfl | exact List.length_append | simp
  refine Qw ?_;refine Wp ?_;refine dF ?_;refine uU ?_;refine Gs ?_;refine pX ?_;refine fW ?_;refine Ad results51 N2 (fun w1 hw1 => ?_);exact ⟨ax3, cx3, sw, (rq ((((((hF.rn1 ((j4.pos a9).neg b9)).pos c8).pos d5).neg i7).neg j0).neg f9)), (Bd (L := sw) (hw1.perm (List.Perm.refl _)) rfl), (by rw [((((((hF.rn1 ((j4.pos a9).neg b9)).pos c8).pos d5).neg i7).neg j0).neg f9).eq]; exact fq)⟩

end Go.Proofs.YtopjaeoklkpcpaaGreatDoor.Jd

namespace Go.Proofs.YtopjaeoklkpcpaaGreatDoor.Jd
open Go.Proofs.Tryz
set_option linter.unusedVariables false
set_option linter.unusedSimpArgs false
set_option maxRecDepth 10000
theorem iY : Eu 3 = [1, 2, 3, 4, 5, 6, 7, 8, 9, 10] := by decide
theorem iZ : Eu 2 = [2, 3, 4, 8, 9, 10] := by decide
theorem jA : Eu 1 = [9, 10] := by decide
theorem jB {n : Int} (h3 : n ≠ 3) (h2 : n ≠ 2) (h1 : n ≠ 1) : Eu n = [] := by
  have : Oa n = 0 := by unfold Oa; rw [if_neg h3, if_neg h2, if_neg h1]
  unfold Eu;rw [this];decide
theorem Zi (n v : Int) : ∀ f i, (Eu n).length < i + f → i ≤ (Eu n).length → (Cc (Qp n v f i) (fun r => r) (fun _ => false) = true ↔ v ∈ (Eu n).drop i)
  | 0, i, h1, h2 => by omega
  | f + 1, i, h1, h2 => by
    unfold Qp;by_cases hi : i < (Eu n).length
    · rw [if_pos z4, Gw hi];by_cases hv : (Eu n).getD i default = v
      · rw [if_pos hv, hv]; simp [Cc]
      · rw [if_neg hv, Zi n v f (i + 1) z4 z4, List.mem_cons];exact ⟨.inr, fun h => h.resolve_left fun e => hv e.symm⟩
    · rw [if_neg z4, List.drop_eq_nil_of_le z4]; simp [Cc]
theorem jC (n v : Int) : Mm n v = true ↔ v ∈ Eu n := Zi n v _ 0 z4 z4
theorem K8 (n v : Int) : Mm n v = Tm n v := by
  rw [Bool.eq_iff_iff, jC];by_cases h3 : n = 3
  · subst h3; rw [iY]; unfold Tm; simp; repeat' split
    all_goals first | (simp_all; done) | omega | (simp_all; omega)
  by_cases h2 : n = 2
  · subst h2; rw [iZ]; unfold Tm; simp; repeat' split
    all_goals first | (simp_all; done) | omega | (simp_all; omega)
  by_cases h1 : n = 1
  · subst h1; rw [jA]; unfold Tm; simp; repeat' split
    all_goals first | (simp_all; done) | omega | (simp_all; omega)
  rw [jB h3 h2 h1];unfold Tm;simp; repeat' split
  all_goals first | (simp_all; done) | omega | (simp_all; omega)
theorem Zj {n v : Int} (h : Mm n v = true) : 1 ≤ v ∧ v ≤ 10 := by
  rw [jC] at h;by_cases h3 : n = 3
  · subst h3; rw [iY] at h; simp at h; omega
  by_cases h2 : n = 2
  · subst h2; rw [iZ] at h; simp at h; omega
  by_cases h1 : n = 1
  · subst h1; rw [jA] at h; simp at h; omega
  rw [jB h3 h2 h1] at h; cases h
/-- What must be of a tenant in a registry of a Seq. -/
structure Og (seq : Int) (t : Aa) : Prop where
  name : Ho t.name = true
  version : 1 ≤ t.version ∧ t.version ≤ seq
  state : 1 ≤ t.state ∧ t.state ≤ 3
  deadline : 0 ≤ t.deadline ∧ t.deadline ≤ 1000000000000
  drains : t.deadline = 0 ∨ t.state = 3
  rules : Fm t.rules = true
  creds : Js t.creds = true
/-- Which registries are right. -/
structure Fx (r : Ab) : Prop where
  slots : Fb r.slots = true
  seq : 0 ≤ r.seq ∧ r.seq ≤ 1000000000000
  hs : r.l.map Aa.handle = Dz r.slots
  names : (r.l.map Aa.name).Nodup
  ok : ∀ t ∈ r.l, Og r.seq t
theorem jD {seq : Int} {t : Aa} : Og seq t ↔ Ju (t, seq) = true ∧ Jv (t, seq) = true ∧ Od (t, seq) = true := by
  unfold Ju Jv Od;constructor
  · rintro ⟨h1, h2, h3, h4, h5, h6, h7⟩;refine ⟨?_, ?_, ?_⟩
    · rw [if_pos h2.1]; simpa using h2.2
    · simp only [h3.1, h3.2, h4.1, h4.2, if_true];split
      · rfl
      · simpa using h5.resolve_left bQ
    · simp only [h1, h6, h7, if_true]
  · rintro ⟨h1, h2, h3⟩;simp only at h1 h2 h3;have a1 : 1 ≤ t.version ∧ t.version ≤ seq := by
      split at h1
      · exact ⟨by assumption, by simpa using h1⟩
      · cases h1
    have a2 : (1 ≤ t.state ∧ t.state ≤ 3) ∧ (0 ≤ t.deadline ∧ t.deadline ≤ 1000000000000) ∧ (t.deadline = 0 ∨ t.state = 3) := by
      repeat' split at h2
      all_goals first | (cases h2; done) | skip
      · exact ⟨⟨by assumption, by assumption⟩, ⟨by assumption, by assumption⟩, .inl bQ⟩
      · exact ⟨⟨by assumption, by assumption⟩, ⟨by assumption, by assumption⟩, .inr (by simpa using h2)⟩
    have a3 : Ho t.name = true ∧ Fm t.rules = true ∧ Js t.creds = true := by
      repeat' split at h3
      all_goals first | (cases h3; done) | skip
      exact ⟨by assumption, by assumption, h3⟩
    exact ⟨a3.1, a1, a2.1, a2.2.1, a2.2.2, a3.2.1, a3.2.2⟩
theorem Pu (r : Ab) : ∀ n i (acc : List Az), r.l.length < i + n → i ≤ r.l.length → (Hr (Nf r n i acc) (fun r => r) (fun _ _ => true) = true ↔ (∀ k, i ≤ k → k < r.l.length → (r.l.getD k default).handle = (Dz r.slots).getD k default ∧ Og r.seq (r.l.getD k default)) ∧ (∀ t ∈ r.l.drop i, t.name ∉ acc) ∧ ((r.l.drop i).map Aa.name).Nodup)
  | 0, i, acc, h1, h2 => by omega
  | n + 1, i, acc, h1, h2 => by
    unfold Nf;by_cases hi : i < r.l.length
    · rw [if_pos z4, Gw hi];generalize ht : r.l.getD i default = t;generalize hh : (Dz r.slots).getD i default = h;have hbad : ¬ (t.handle = h ∧ Og r.seq t) → ¬ (∀ k, i ≤ k → k < r.l.length → (r.l.getD k default).handle = (Dz r.slots).getD k default ∧ Og r.seq (r.l.getD k default)) := fun hn ha => hn (by
        have := ha i (Nat.le_refl _) hi
        rwa [ht, hh] at this)
      by_cases hs : t.handle.slot = h.slot ∧ t.handle.gen = h.gen
      · have he : t.handle = h := by
          obtain ⟨e1, e2⟩ := hs;cases hth : t.handle; cases h; simp_all
        rw [if_neg (by simpa using hs)];by_cases hm : t.name ∈ acc
        · rw [if_pos hm];simp only [Hr];exact ⟨nofun, fun ⟨_, h3, _⟩ => absurd hm (h3 t List.mem_cons_self)⟩
        · rw [if_neg hm];by_cases hT : Og r.seq t
          · obtain ⟨c1, c2, c3⟩ := jD.1 hT;rw [c1, c2, c3];simp only [Bool.not_true, Bool.false_eq_true, if_false];rw [Pu r n (i + 1) _ z4 z4, List.map_cons, List.nodup_cons];constructor
            · rintro ⟨g1, g2, g3⟩;refine ⟨fun k hk hl => ?_, fun u hu => ?_, ?_, g3⟩
              · by_cases e : k = i
                · subst e; rw [ht, hh]; exact ⟨he, hT⟩
                · exact g1 k z4 hl
              · rcases List.mem_cons.1 hu with rfl | hu
                · exact hm
                · exact fun hc => g2 u hu (List.mem_append_left _ hc)
              · intro hc;obtain ⟨u, hu, e⟩ := List.mem_map.1 hc;exact g2 u hu (List.mem_append_right _ (by simp [e]))
            · rintro ⟨g1, g2, g3, g4⟩;refine ⟨fun k hk hl => g1 k z4 hl, fun u hu hc => ?_, g4⟩;rcases List.mem_append.1 hc with hc | hc
              · exact g2 u (List.mem_cons_of_mem _ hu) hc
              · exact g3 (List.mem_map.2 ⟨u, hu, by simpa using hc⟩)
          · have hb := hbad fun h => hT h.2
            have hx : ¬ (Ju (t, r.seq) = true ∧ Jv (t, r.seq) = true ∧ Od (t, r.seq) = true) := fun h => hT (jD.2 h)
            cases c1 : Ju (t, r.seq)
            · simp only [Bool.not_false, if_true, Hr]; exact ⟨nofun, fun h => absurd h.1 hb⟩
            cases c2 : Jv (t, r.seq)
            · simp only [Bool.not_false, Bool.not_true, Bool.false_eq_true, if_true, if_false, Hr]; exact ⟨nofun, fun h => absurd h.1 hb⟩
            cases c3 : Od (t, r.seq)
            · simp only [Bool.not_false, Bool.not_true, Bool.false_eq_true, if_true, if_false, Hr]; exact ⟨nofun, fun h => absurd h.1 hb⟩
            exact absurd ⟨c1, c2, c3⟩ hx
      · rw [if_pos (by simpa using hs)];simp only [Hr];exact ⟨nofun, fun hc => absurd hc.1 (hbad fun h2 => hs (by rw [h2.1]; exact ⟨rfl, rfl⟩))⟩
    · rw [if_neg z4, List.drop_eq_nil_of_le z4];simp only [Hr, List.map_nil, List.nodup_nil, and_true, List.not_mem_nil, false_implies, implies_true, true_and];exact ⟨fun _ k h3 h4 => by omega, fun _ => trivial⟩
theorem Qr {α β : Type} [Inhabited α] [Inhabited β] {f : α → β} {xs : List α} {ys : List β} (hl : ys.length = xs.length) : (∀ k, k < xs.length → f (xs.getD k default) = ys.getD k default) ↔ xs.map f = ys := by
  constructor
  · intro h;refine List.ext_getElem (by simp [hl]) fun k h1 h2 => ?_
    have := h k (by simpa using h1);simpa [List.getD, show k < xs.length by simpa using h1, h2] using this
  · rintro rfl k hk;simp [List.getD, hk]
theorem Oh {r : Ab} : Gj r = true ↔ Fx r := by
  unfold Gj;constructor
  · intro h;split at h
    · cases h
    rename_i h1
    split at h
    · cases h
    split at h
    · cases h
    split at h
    · cases h
    rename_i h2 h3 h4
    obtain ⟨g1, _, g3⟩ := (Pu r _ 0 [] z4 z4).1 h;refine ⟨by simpa using h1, ⟨by omega, by omega⟩, (Qr z4).1 fun k hk => (g1 k z4 hk).1, by simpa using g3, fun t ht => ?_⟩;obtain ⟨k, hk, rfl⟩ := List.getElem_of_mem ht;have := (g1 k z4 hk).2;simpa [List.getD, hk] using this
  · rintro ⟨h1, h2, h3, h4, h5⟩;have hl : (Dz r.slots).length = r.l.length := by rw [← h3]; simp
    rw [h1, if_neg Gu, if_neg z4, if_neg z4, if_neg z4];refine (Pu r _ 0 [] z4 z4).2 ⟨fun k _ hk => ⟨(Qr hl).2 h3 k hk, ?_⟩, fun t _ => by simp, by simpa using h4⟩;refine h5 _ ?_;rw [List.getD_eq_getElem?_getD, List.getElem?_eq_getElem hk]; exact List.getElem_mem hk
theorem Zk {r : Ab} (h : Gj r = true) : r.l.length ≤ 64 ∧ r.slots.gens.length ≤ 64 ∧ r.slots.used.length ≤ 64 ∧ r.slots.free.length ≤ 64 ∧ 0 ≤ r.seq ∧ r.seq ≤ 1000000000000 := by
  have h' := Oh.1 h;have e := congrArg List.length h'.hs;rw [List.length_map] at e;have := H8 r.slots;have h3 := Ts h'.slots;exact ⟨by omega, by omega, by omega, by omega, h'.seq⟩
theorem xY {r : Ab} (h : Gj r = true) {i : Nat} (hi : i < r.l.length) : Og r.seq (r.l.getD i default) := by
  refine (Oh.1 h).ok _ ?_;rw [List.getD_eq_getElem?_getD, List.getElem?_eq_getElem hi]; exact List.getElem_mem hi
theorem Rm {r : Ab} (h : Gj r = true) {i : Nat} (hi : i < r.l.length) : 1 ≤ (r.l.getD i default).version ∧ (r.l.getD i default).version ≤ r.seq := (xY h hi).version
end Go.Proofs.YtopjaeoklkpcpaaGreatDoor.Jd

namespace Go.Proofs.YtopjaeoklkpcpaaGreatDoor.Jd
open Go.Proofs.Tryz
open Go.Proofs
open Go.RowKit (Below)
set_option maxRecDepth 100000
set_option maxHeartbeats 8000000
set_option linter.unusedVariables false
set_option linter.unusedSimpArgs false
theorem uC : Bq Tryz.prog 36 0 0 := fun r k w => by simp [Instr.fieldAt, Instr.sureAddr, fieldPlace, Bh]
theorem Vf : Bq Tryz.prog 36 1 1 := fun r k w => by simp [Instr.fieldAt, Instr.sureAddr, fieldPlace, Bh]
theorem cU : Bq Tryz.prog 36 2 2 := fun r k w => by simp [Instr.fieldAt, Instr.sureAddr, fieldPlace, Bh]
theorem cV : Bq Tryz.prog 36 3 3 := fun r k w => by simp [Instr.fieldAt, Instr.sureAddr, fieldPlace, Bh]
theorem uD : Bq Tryz.prog 36 4 4 := fun r k w => by simp [Instr.fieldAt, Instr.sureAddr, fieldPlace, Bh]
theorem lG : Bq Tryz.prog 36 5 9 := fun r k w => by simp [Instr.fieldAt, Instr.sureAddr, fieldPlace, Bh]
theorem cW : Bq Tryz.prog 36 6 10 := fun r k w => by simp [Instr.fieldAt, Instr.sureAddr, fieldPlace, Bh]
theorem uF : Bq Tryz.prog 36 7 11 := fun r k w => by simp [Instr.fieldAt, Instr.sureAddr, fieldPlace, Bh]
theorem uG : Bq Tryz.prog 44 0 0 := fun r k w => by simp [Instr.fieldAt, Instr.sureAddr, fieldPlace, Bh]
theorem cX : Bq Tryz.prog 97 0 0 := fun r k w => by simp [Instr.fieldAt, Instr.sureAddr, fieldPlace, Bh]
theorem Vg : Bq Tryz.prog 97 1 9 := fun r k w => by simp [Instr.fieldAt, Instr.sureAddr, fieldPlace, Bh]
theorem lH : Bq Tryz.prog 97 2 21 := fun r k w => by simp [Instr.fieldAt, Instr.sureAddr, fieldPlace, Bh]
theorem AY5 : Ic Tryz.prog 44 [(0, 1), (1, 1), (2, 2), (4, 1), (5, 1)] := ⟨_, fun w => runUnderlying44 w, fun w => by simp⟩
theorem AY6 : Ic Tryz.prog 97 [(0, 9), (9, 12), (21, 1)] := ⟨_, fun w => runUnderlying97 w, fun w => by simp⟩
theorem AN6 : Ic Tryz.prog 120 [(0, 1)] := ⟨_, fun w => runUnderlying120 w, fun w => by simp⟩

theorem uH (w : World) {s0a : Option Addr} {s0n : Nat} {s0c : Nat} {s1a : Option Addr} {s1n : Nat} {s1c : Nat} {s2a : Option Addr} {s2n : Nat} {s2c : Nat} {q_ : Int} {l_a : Option Addr} {l_c : Nat} {xs : List Aa} {ts : List TA} {x : Aa} {v : TA} (h : Wc w Cn 8 DT l_a xs ts) (n : xs.length ≤ 1000) (k : xs.length ≤ l_c) :
  Calls Tryz.prog 51 (List.toArray [(Value.agg [(vs s0a s0n s0c), (vs s1a s1n s1c), (vs s2a s2n s2c), (vs l_a xs.length l_c), (vi q_)].toArray), (Value.agg [(vi x.handle.slot), (vi x.handle.gen), (vt x.name), (vi x.state), (vi x.version), (vs v.ra x.rules.length v.rc), (vs v.ca x.creds.length v.cc), (vi x.deadline)].toArray)]) w fun e w2 => ∃ a1 : Option Addr, ∃ c1 : Nat, ∃ B1 : An, e = .returned (Value.agg [(vs s0a s0n s0c), (vs s1a s1n s1c), (vs s2a s2n s2c), (vs a1 (Ge xs x).length c1), (vi q_)].toArray) ∧ Dj w w2 B1 ∧ Bg Cn 8 52 a1 c1 B1 (List.zip (Ge xs x) (aO xs ts x v)) := by
 have hz := Aw h.1;have h2 := AA9 w (s0a := s0a) (s0n := s0n) (s0c := s0c) (s1a := s1a) (s1n := s1n) (s1c := s1c) (s2a := s2a) (s2n := s2n) (s2c := s2c) (q_ := q_) (l_a := l_a) (l_c := l_c) (l := List.zip xs ts) (x := (x, v)) h.2.1 (by rw [hz]; exact n) (by rw [hz]; exact k);rw [hz, J5 x v h.1, Aw (bL xs ts x v h.1)] at h2;exact h2
theorem xZ (w : World) {a : Option Addr} {c : Nat} {xs : List Aa} {ts : List TA} (h : Wc w Cn 8 DT a xs ts) (n : xs.length ≤ 1000) :
  Calls Tryz.prog 115 (List.toArray [(vs a xs.length c)]) w fun e w2 => ∃ a1 : Option Addr, ∃ c1 : Nat, ∃ B1 : An, e = .returned (vs a1 xs.length c1) ∧ Dj w w2 B1 ∧ Bg Cn 8 52 a1 c1 B1 (List.zip xs ts) := by
 have hz := Aw h.1;have h2 := rY w (s_a := a) (s_c := c) (s := List.zip xs ts) h.2.1 (by rw [hz]; omega);rw [hz] at h2;exact h2
theorem AB0 (w : World) {a : Option Addr} {c : Nat} {B : An} {xs : List Aa} {ts : List TA} {i j : Int} (ho : Bg Cn 8 52 a c B (List.zip xs ts)) (hb : ∀ p ∈ B, w.heap[p.1]? = some p.2) (hl : ts.length = xs.length) (n : xs.length ≤ 1000) (hi : 0 ≤ i ∧ i < j ∧ j ≤ xs.length) :
  Calls Tryz.prog 114 (List.toArray [(vs a xs.length c), (vi i), (vi j)]) w fun e w2 => ∃ a1 : Option Addr, ∃ c1 : Nat, ∃ B1 : An, e = .returned (vs a1 (delL xs i.toNat j.toNat).length c1) ∧ Tr w w2 B B1 ∧ Bg Cn 8 52 a1 c1 B1 (List.zip (delL xs i.toNat j.toNat) (delL ts i.toNat j.toNat)) := by
 have hz := Aw hl;have h2 := oS w (s_a := a) (s_c := c) (s_B := B) (s := List.zip xs ts) (i := i) (j := j) ho hb (by rw [hz]; omega) (by rw [hz]; exact hi);have hd : (delL ts i.toNat j.toNat).length = (delL xs i.toNat j.toNat).length := by rw [Hj z4 z4, Hj z4 z4, hl]
 rw [hz, J6 hl, Aw hd] at h2;exact h2

end Go.Proofs.YtopjaeoklkpcpaaGreatDoor.Jd

namespace Go.Proofs.YtopjaeoklkpcpaaGreatDoor.Jd
open Go.Proofs.Tryz
open Go.Proofs
open Go.RowKit (Below)
set_option maxRecDepth 100000
set_option maxHeartbeats 8000000
set_option linter.unusedVariables false
set_option linter.unusedSimpArgs false

theorem K9 (w : World) {l_a : Option Addr} {l_c : Nat} {l : List Bf} (h_l : Sl w En 5 l_a l) (k_l : l.length ≤ l_c) : Calls Tryz.prog 37 (List.toArray [(vs l_a l.length l_c)]) w fun e w2 => ∃ a1 : Option Addr, ∃ c1 : Nat, ∃ B1 : An, e = .returned (vs a1 ((Kf l).length) c1) ∧ Dj w w2 B1 ∧ Bg En 5 34 a1 c1 B1 (Kf l) ∧ (Kf l).length ≤ 18 := by
 have hF := Is.refl (Kf l);refine enter func37 ntmps37 (h := ?_);refine Zw ?_;refine Qv ?_;refine aB ?_;refine Ah dU (k := ?_);have hl1 : (l.take (min l.length 18)).length = (min l.length 18) := by rw [List.length_take]; first | (split <;> omega) | omega
 refine Ah (Dv (l.take (min l.length 18)).length runUnderlying49 (fun w => ⟨_, sizeOf34 w⟩) (hm := z4) (hi := by first | (split <;> omega) | omega)) (k := ?_);refine Ba (l.take (min l.length 18)) (List.nil_append _) Kw underlying49 Bu Bg.nil (List.Perm.refl _) ((Bv.of_base h_l).take (min l.length 18)) ⟨by omega, by omega⟩ (n := 0) (m := (l.take (min l.length 18)).length) (k := fun ax1 cx1 bc m7 => ?_);refine Z9 ?_;refine Ad results37 z1 (fun w1 hw1 => ?_);exact ⟨ax1, cx1, bc, (rq hF), (Bd (L := bc) (hw1.perm (List.Perm.refl _)) rfl.symm), (by unfold Kf; exact m7), (by unfold Kf; rw [List.length_take]; omega)⟩

theorem AB1 (w : World) {l_a : Option Addr} {l_c : Nat} {l : List Bs} (h_l : Sl w Fy 4 l_a l) : Calls Tryz.prog 38 (List.toArray [(vs l_a l.length l_c)]) w fun e w2 => ∃ a1 : Option Addr, ∃ c1 : Nat, ∃ B1 : An, e = .returned (vs a1 ((Tx l).length) c1) ∧ Dj w w2 B1 ∧ Bg Fy 4 62 a1 c1 B1 (Tx l) ∧ (Tx l).length ≤ 6 := by
 have hF := Is.refl (Tx l);refine enter func38 ntmps38 (h := ?_);refine Ry ?_;refine Un ?_;refine Sc ?_;refine Yh (σ1 := Nat) (σ2 := List Bs) (σ3 := Option Addr) (σ4 := Nat) (σ5 := An) (σ6 := Nat) (fun n_3 out_1 j1 j3 i8 i_2 => (i8 ++ [])) (fun n_3 out_1 j1 j3 i8 i_2 => [(0, (vs l_a l.length l_c)), (2, (vs none 0 0)), (3, (vs j1 out_1.length j3)), (4, (vi ((i_2 : Nat) : Int)))]) (fun n_3 out_1 j1 j3 i8 i_2 => 6 - i_2 < n_3 ∧ Is (Rk l (6 + 1) [] 0) (Rk l n_3 out_1 i_2) ∧ Bg Fy 4 62 j1 j3 i8 out_1 ∧ out_1.length ≤ i_2 ∧ i_2 ≤ 6 ∧ i_2 ≤ l.length) (fun n_3 out_1 j1 j3 i8 i_2 => n_3) (6 + 1) ([]) none 0 ([]) 0 ?_ se (List.Perm.refl _) ?_
 ·exact ⟨Nat.lt_succ_self _, Is.refl _, Bg.nil, Na, Na, Na⟩
 ·rintro (_ | n_3) out_1 j1 j3 i8 i_2 ⟨hm5, aa, t6, hi6, hi7, hi8⟩
  ·omega
  refine S8 ?_;refine Qb ?_;refine Ar 10 rfl (fun a9 => ?_) (fun a9 => ?_);rotate_left
  ·refine Ag 2 rfl ?_;refine Rt ?_;refine pT ?_;refine dF ?_;refine Ad results38 z1 (fun w1 hw1 => ?_);exact ⟨j1, j3, i8, (rq (hF.rn2 (aa.neg a9))), (Bd (L := i8) (hw1.perm (List.Perm.refl _)) rfl.symm), (by rw [(hF.rn2 (aa.neg a9)).eq]; exact t6), (rl (hF.rn2 (aa.neg a9)))⟩
  refine qF ?_;refine zF ?_;refine Av rfl (fun b9 => ?_) (fun b9 => ?_);rotate_left
  ·refine Cz ?_;refine dF ?_;refine Ad results38 z1 (fun w1 hw1 => ?_);exact ⟨j1, j3, i8, (rq (hF.rn2 ((aa.pos a9).neg b9))), (Bd (L := i8) (hw1.perm (List.Perm.refl _)) rfl.symm), (by rw [(hF.rn2 ((aa.pos a9).neg b9)).eq]; exact t6), (rl (hF.rn2 ((aa.pos a9).neg b9)))⟩
  refine Qf ?_;refine Qv ?_;refine Ah (Cj (n := l.length) runUnderlying50 sizeOf62 i_2 Xt (gD z3) Km) (k := ?_);refine Ah (Du isAgg62 sizeOf62 i_2 Xt (gD z3)) (k := ?_);refine Aj Af z58 (k := fun r1 p4 => ?_);refine R4 ?_;refine Ah (Al Va) (k := ?_);refine kF ?_;refine Ah (Al Va) (k := ?_);refine kF ?_;refine R6 ?_;refine Ah (Yr (s := ((l.getD i_2 default).key)) (min ((l.getD i_2 default).key).length 65) runUnderlying9 z4 (hj := by split <;> omega)) (k := ?_);have hsb2 : (((l.getD i_2 default).key).take (min ((l.getD i_2 default).key).length 65)).length = (min ((l.getD i_2 default).key).length 65) := by first | omega | (simp only [List.length_take, List.length_drop, List.length_cons, List.length_nil] <;> omega)
  refine Ah (Al Va) (k := ?_);refine Gv (Bw (l' := [_, _, _, _]) sizeOf9) (k := ?_);refine Z0 ?_;refine Rx ?_;refine wC ?_;refine Aj Af z46 (k := fun r2 bv => ?_);refine Ba (out_1 ++ ([(Bs.mk ((l.getD i_2 default).id) (((l.getD i_2 default).key).take (min ((l.getD i_2 default).key).length 65)) ((l.getD i_2 default).frm) ((l.getD i_2 default).to))] : List Bs)) rfl iR underlying50 Cq t6 (qb (qb q0)) (Bv.lit (xs := ([(Bs.mk ((l.getD i_2 default).id) (((l.getD i_2 default).key).take (min ((l.getD i_2 default).key).length 65)) ((l.getD i_2 default).frm) ((l.getD i_2 default).to))] : List Bs)) Cq) ⟨by omega, by omega⟩ (n := out_1.length) (m := 1) (k := fun ax1 cx1 bc m7 => ?_);have hal1 : (out_1 ++ ([(Bs.mk ((l.getD i_2 default).id) (((l.getD i_2 default).key).take (min ((l.getD i_2 default).key).length 65)) ((l.getD i_2 default).frm) ((l.getD i_2 default).to))] : List Bs)).length = out_1.length + 1 := by first | rfl | exact List.length_append | simp
  refine pJ ?_;refine Vw ?_;refine Ev _ (sa (sd (sd sz))) ?_;refine Ch ?_;refine qD ?_;exact Ra n_3 (out_1 ++ ([(Bs.mk ((l.getD i_2 default).id) (((l.getD i_2 default).key).take (min ((l.getD i_2 default).key).length 65)) ((l.getD i_2 default).frm) ((l.getD i_2 default).to))] : List Bs)) ax1 cx1 bc (i_2 + 1) ⟨by omega, ((aa.pos a9).pos b9), m7, z4, z4, z4⟩ (Nat.lt_succ_self _) se (List.Perm.refl _)

theorem L1 (w : World) {c : Ak} : Jc Tryz.prog 16 [(Value.agg [(vi c.verb), (vt c.name), (vi c.want), (vi c.at_), (Value.bool c.rule.allow), (vi c.rule.pfx.addr), (vi c.rule.pfx.bits), (vi c.rule.prt.lo), (vi c.rule.prt.hi), (vt c.key), (vi c.n), (vi c.m)].toArray)] w (Value.agg [(vi ((Ae c).verb)), (vt ((Ae c).name)), (vi ((Ae c).want)), (vi ((Ae c).at_)), (Value.bool ((Ae c).rule.allow)), (vi ((Ae c).rule.pfx.addr)), (vi ((Ae c).rule.pfx.bits)), (vi ((Ae c).rule.prt.lo)), (vi ((Ae c).rule.prt.hi)), (vt ((Ae c).key)), (vi ((Ae c).n)), (vi ((Ae c).m))].toArray) := by
 have hF := Is.refl (Ae c);refine enter func16 ntmps16 (h := ?_);refine Z2 ?_;refine Aj Af N3 (k := fun r1 p4 => ?_);refine Aj Af (Dt (l := [_, _, _, _, _, _, _, _, _, _, _, _]) zeroValue36) (k := fun r2 bv => ?_);refine Pl ?_;refine vI ?_;refine vI ?_;refine R6 ?_;refine Ah (Yr (s := c.name) (min c.name.length 41) runUnderlying9 z4 (hj := by split <;> omega)) (k := ?_);have hsb1 : (c.name.take (min c.name.length 41)).length = (min c.name.length 41) := by first | omega | (simp only [List.length_take, List.length_drop, List.length_cons, List.length_nil] <;> omega)
 refine Ah (Al Vf) (k := ?_);refine Gv (Bw (l' := [_, _, _, _, _, _, _, _, _, _, _, _]) sizeOf9) (k := ?_);refine Pl ?_;refine zW ?_;refine zW ?_;refine R6 ?_;refine Ah (Yr (s := c.key) (min c.key.length 65) runUnderlying9 z4 (hj := by split <;> omega)) (k := ?_);have hsb2 : (c.key.take (min c.key.length 65)).length = (min c.key.length 65) := by first | omega | (simp only [List.length_take, List.length_drop, List.length_cons, List.length_nil] <;> omega)
 refine Ah (Al lG) (k := ?_);refine Gv (Bw (l' := [_, _, _, _, _, _, _, _, _, _, _, _]) sizeOf9) (k := ?_);refine Pl ?_;refine Ah (Ck isAgg36 sizeOf36) (k := ?_);refine Gv (Bw (l' := [_, _, _, _, _, _, _, _, _, _, _, _]) sizeOf36) (k := ?_);refine hJ ?_;refine Ad results16 (Dd.agg isAgg36 sizeOf36 rfl me rfl Dd.nil) (fun w1 hw1 => ?_);exact ⟨(rq hF), hw1.ext_out⟩

end Go.Proofs.YtopjaeoklkpcpaaGreatDoor.Jd

namespace Go.Proofs.YtopjaeoklkpcpaaGreatDoor.Jd.SlT
open Go.Proofs.Tryz
open Go.Proofs
open Go.RowKit (Below)
set_option maxRecDepth 100000
set_option linter.unusedVariables false
set_option linter.unusedSimpArgs false
def L3 (n : Int) : Bool := decide (n < 0 ∨ 1000000000 < n)
def AD6 (gl : List Int) (ul : List Bool) : Bool := decide (1 ≤ gl.length ∧ gl.length ≤ 64 ∧ ul.length = gl.length)
theorem Ft {α : Type} [Inhabited α] {xs : List α} {k : Nat} (h : k < xs.length) : xs.getD k default = xs[k] := by simp [List.getD, h]
theorem take_succ' {α : Type} [Inhabited α] {xs : List α} {k : Nat} (h : k < xs.length) : xs.take (k + 1) = xs.take k ++ [xs.getD k default] := by
  rw [List.take_add_one, List.getElem?_eq_getElem h, Ft h]; rfl
def usedIx : Nat → List Bool → List Nat
  | _, [] => []
  | i, true :: r => i :: usedIx (i + 1) r
  | i, false :: r => usedIx (i + 1) r
def cntU (l : List Bool) : Nat := (usedIx 0 l).length
theorem Pv : ∀ (l : List Bool) (i : Nat), (usedIx i l).length ≤ l.length
  | [], i => by simp [usedIx]
  | true :: r, i => by have := Pv r (i + 1); simp [usedIx]; omega
  | false :: r, i => by have := Pv r (i + 1); simp [usedIx]; omega
def freeD (ul : List Bool) (fl : List Int) : Prop := (∀ x ∈ fl, 0 ≤ x ∧ x < ul.length ∧ ul.getD x.toNat default = false) ∧ fl.Nodup
instance (ul : List Bool) (fl : List Int) : Decidable (freeD ul fl) := inferInstanceAs (Decidable (_ ∧ _))
def rightB (gl : List Int) (ul : List Bool) (fl : List Int) : Bool := AD6 gl ul && !(gl.any L3) && decide (freeD ul fl ∧ (gl.length : Int) - (cntU ul : Int) = (fl.length : Int))
def hnd (gl : List Int) (ul : List Bool) : List (Int × Int) := (usedIx 0 ul).map fun i : Nat => ((i : Int), gl.getD i default)
def allD (gl : List Int) (ul : List Bool) (fl : List Int) : List (Int × Int) := if rightB gl ul fl then hnd gl ul else []
theorem all_no {gl : List Int} {ul : List Bool} {fl : List Int} (h : rightB gl ul fl = false) : allD gl ul fl = [] := by simp [allD, h]
theorem AB2 {gl : List Int} {ul : List Bool} {fl : List Int} : (allD gl ul fl).length ≤ ul.length := by
  have := Pv ul 0;unfold allD;split
  · simpa [hnd] using this
  · simp
abbrev L4 := List Int × List Bool × List Int
def Gm (fl : List Int) : Int := fl.getD ((fl.length : Int) - 1).toNat default
def takeD (gl : List Int) (ul : List Bool) (fl : List Int) : L4 × (Int × Int) × Int :=
  if rightB gl ul fl then
    if fl.length = 0 ∨ gl.getD (Gm fl).toNat default = 1000000000 then (([], [], []), (0, 0), 92)
    else ((gl.set (Gm fl).toNat (gl.getD (Gm fl).toNat default + 1), ul.set (Gm fl).toNat true, fl.take (fl.length - 1)), (Gm fl, gl.getD (Gm fl).toNat default + 1), 0)
  else (([], [], []), (0, 0), 90)
theorem uI {gl : List Int} {ul : List Bool} {fl : List Int} (h : rightB gl ul fl = false) : takeD gl ul fl = (([], [], []), (0, 0), 90) := by simp [takeD, h]
theorem aR {gl : List Int} {ul : List Bool} {fl : List Int} (h : rightB gl ul fl = true) (h1 : fl.length = 0 ∨ gl.getD (fl.getD ((fl.length : Int) - 1).toNat default).toNat default = 1000000000) : takeD gl ul fl = (([], [], []), (0, 0), 92) := by
  unfold takeD; rw [if_pos h]; exact if_pos h1
theorem oT {gl : List Int} {ul : List Bool} {fl : List Int} (h : rightB gl ul fl = true) (h1 : fl.length ≠ 0) (h2 : ¬ gl.getD (fl.getD ((fl.length : Int) - 1).toNat default).toNat default = 1000000000) :
    takeD gl ul fl = ((gl.set (Gm fl).toNat (gl.getD (Gm fl).toNat default + 1), ul.set (Gm fl).toNat true, fl.take (fl.length - 1)), (Gm fl, gl.getD (Gm fl).toNat default + 1), 0) := by
  unfold takeD; rw [if_pos h]; exact if_neg (fun hh => hh.elim h1 h2)
theorem rightB_iff {gl : List Int} {ul : List Bool} {fl : List Int} : rightB gl ul fl = true ↔ (1 ≤ gl.length ∧ gl.length ≤ 64 ∧ ul.length = gl.length) ∧ (∀ x ∈ gl, 0 ≤ x ∧ x ≤ 1000000000) ∧ freeD ul fl ∧ (gl.length : Int) - (cntU ul : Int) = (fl.length : Int) := by
  simp only [rightB, Bool.and_eq_true, AD6, decide_eq_true_eq, Bool.not_eq_true', List.any_eq_false, L3];constructor
  · rintro ⟨⟨h1, h2⟩, h3, h4⟩;exact ⟨h1, fun x hx => by have := h2 x hx; omega, h3, h4⟩
  · rintro ⟨h1, h2, h3, h4⟩;exact ⟨⟨h1, fun x hx => by have := h2 x hx; omega⟩, h3, h4⟩
theorem Xn {gl : List Int} {ul : List Bool} {fl : List Int} (h : rightB gl ul fl = true) (h1 : fl.length ≠ 0) :
    0 ≤ fl.getD ((fl.length : Int) - 1).toNat default ∧ fl.getD ((fl.length : Int) - 1).toNat default < gl.length ∧ gl.length = ul.length ∧ 0 ≤ gl.getD (fl.getD ((fl.length : Int) - 1).toNat default).toNat default ∧ gl.getD (fl.getD ((fl.length : Int) - 1).toNat default).toNat default ≤ 1000000000 := by
  obtain ⟨⟨g1, g2, g3⟩, h2, h3, _⟩ := rightB_iff.1 h;have hlt : ((fl.length : Int) - 1).toNat < fl.length := by omega
  have hm : fl.getD ((fl.length : Int) - 1).toNat default ∈ fl := by rw [Ft hlt]; exact List.getElem_mem hlt
  obtain ⟨c1, c2, _⟩ := h3.1 _ hm;have hlt2 : (fl.getD ((fl.length : Int) - 1).toNat default).toNat < gl.length := by omega
  have := h2 (gl.getD (fl.getD ((fl.length : Int) - 1).toNat default).toNat default) (by rw [Ft hlt2]; exact List.getElem_mem hlt2);exact ⟨c1, by omega, by omega, this⟩
theorem Jk {xs : List Int} {m : Nat} {v : Int} (h : m < xs.length) : (xs.set m v).getD m default = v := by simp [List.getD, h]
def giveD (gl : List Int) (ul : List Bool) (fl : List Int) (h1 h2 : Int) : L4 × Int :=
  if rightB gl ul fl then if (h1, h2) ∈ allD gl ul fl then ((gl, ul.set h1.toNat false, fl ++ [h1]), 0) else (([], [], []), 91) else (([], [], []), 90)
theorem give_yes {gl : List Int} {ul : List Bool} {fl : List Int} {h1 h2 : Int} (h : rightB gl ul fl = true) (hv : (h1, h2) ∈ allD gl ul fl) : giveD gl ul fl h1 h2 = ((gl, ul.set h1.toNat false, fl ++ [h1]), 0) := by simp [giveD, h, hv]
theorem Rn : ∀ (l : List Bool) (i j : Nat), j ∈ usedIx i l ↔ i ≤ j ∧ l[j - i]? = some true
  | [], i, j => by simp [usedIx]
  | true :: r, i, j => by
    simp only [usedIx, List.mem_cons, Rn r];constructor
    · rintro (rfl | ⟨h1, h2⟩)
      · simp
      · refine ⟨by omega, ?_⟩;rw [show j - i = (j - (i + 1)) + 1 by omega]; simpa using h2
    · rintro ⟨h1, h2⟩;rcases Nat.eq_or_lt_of_le h1 with e | h3
      · exact .inl e.symm
      · refine .inr ⟨h3, ?_⟩;rw [show j - i = (j - (i + 1)) + 1 by omega] at h2; simpa using h2
  | false :: r, i, j => by
    simp only [usedIx, Rn r];constructor
    · rintro ⟨h1, h2⟩;refine ⟨by omega, ?_⟩;rw [show j - i = (j - (i + 1)) + 1 by omega]; simpa using h2
    · rintro ⟨h1, h2⟩;rcases Nat.eq_or_lt_of_le h1 with e | h3
      · subst e; simp at h2
      · refine ⟨h3, ?_⟩;rw [show j - i = (j - (i + 1)) + 1 by omega] at h2; simpa using h2
theorem AB3 {gl : List Int} {ul : List Bool} {p q : Int} : (p, q) ∈ hnd gl ul ↔ 0 ≤ p ∧ ul[p.toNat]? = some true ∧ gl.getD p.toNat default = q := by
  simp only [hnd, List.mem_map, Rn, Prod.mk.injEq];constructor
  · rintro ⟨j, ⟨_, h2⟩, rfl, rfl⟩;exact ⟨by omega, by simpa using h2, by simp⟩
  · rintro ⟨h1, h2, h3⟩;exact ⟨p.toNat, ⟨Nat.zero_le _, by simpa using h2⟩, by omega, h3⟩
theorem usedIx_sorted : ∀ (l : List Bool) (i : Nat), (usedIx i l).Pairwise (· < ·)
  | [], _ => List.Pairwise.nil
  | true :: r, i => List.Pairwise.cons (fun j hj => by have := (Rn r (i + 1) j).1 hj; omega) (usedIx_sorted r (i + 1))
  | false :: r, i => usedIx_sorted r (i + 1)
theorem Xo : ∀ (l : List Bool) (i : Nat), (usedIx i l).length = l.count true
  | [], _ => rfl
  | true :: r, i => by simp [usedIx, Xo r (i + 1)]
  | false :: r, i => by simp [usedIx, Xo r (i + 1)]
theorem cntU_eq (l : List Bool) : cntU l = l.count true := Xo l 0
theorem Tz : ∀ (l : List Bool) (i : Nat), l[i]? = some false → (l.set i true).count true = l.count true + 1
  | [], _, h => by simp at h
  | b :: r, 0, h => by
    have : b = false := by simpa using h
    subst this; simp
  | b :: r, i + 1, h => by
    have := Tz r i (by simpa using h);cases b <;> simp [this]
theorem Rv : ∀ (l : List Bool) (i : Nat), l[i]? = some true → (l.set i false).count true + 1 = l.count true
  | [], _, h => by simp at h
  | b :: r, 0, h => by
    have : b = true := by simpa using h
    subst this; simp
  | b :: r, i + 1, h => by
    have := Rv r i (by simpa using h);cases b <;> simp <;> omega

/-- What taking gives. -/
structure fE (gl : List Int) (ul : List Bool) (fl : List Int) (i : Nat) : Prop where
  right : rightB gl ul fl = true
  pos : fl.length ≠ 0
  last : Gm fl = (i : Int)
  lt : i < gl.length
  free : ul[i]? = some false
  gen : 0 ≤ gl.getD i default ∧ gl.getD i default < 1000000000
  eq : takeD gl ul fl = ((gl.set i (gl.getD i default + 1), ul.set i true, fl.take (fl.length - 1)), ((i : Int), gl.getD i default + 1), 0)

theorem take_cases (gl : List Int) (ul : List Bool) (fl : List Int) :
    (rightB gl ul fl = false ∧ takeD gl ul fl = (([], [], []), (0, 0), 90)) ∨ (rightB gl ul fl = true ∧ takeD gl ul fl = (([], [], []), (0, 0), 92)) ∨ ∃ i, fE gl ul fl i := by
  cases hr : rightB gl ul fl with
  | false => exact .inl ⟨rfl, uI hr⟩
  | true =>
    by_cases hf : fl.length = 0 ∨ gl.getD (fl.getD ((fl.length : Int) - 1).toNat default).toNat default = 1000000000
    · exact .inr (.inl ⟨rfl, aR hr hf⟩)
    · rw [not_or] at hf;have h1 := Xn hr hf.1;obtain ⟨c1, c2, c3, c4, c5⟩ := h1;refine .inr (.inr ⟨(Gm fl).toNat, hr, hf.1, ?_, ?_, ?_, ?_, ?_⟩)
      · have : 0 ≤ Gm fl := c1;omega
      · have : Gm fl < gl.length := c2;omega
      · have hlt : ((fl.length : Int) - 1).toNat < fl.length := by omega
        have hm : Gm fl ∈ fl := by unfold Gm; rw [Ft hlt]; exact List.getElem_mem hlt
        obtain ⟨d1, d2, d3⟩ := (rightB_iff.1 hr).2.2.1.1 _ hm;have hl : (Gm fl).toNat < ul.length := by omega
        rw [Ft hl] at d3;rw [List.getElem?_eq_getElem hl, d3]
      · have h2 : ¬ gl.getD (Gm fl).toNat default = 1000000000 := hf.2;have h3 : 0 ≤ gl.getD (Gm fl).toNat default := c4;have h4 : gl.getD (Gm fl).toNat default ≤ 1000000000 := c5;omega
      · have h0 : ((Gm fl).toNat : Int) = Gm fl := by have : 0 ≤ Gm fl := c1; omega
        rw [oT hr hf.1 hf.2, h0]

theorem take_right {gl : List Int} {ul : List Bool} {fl : List Int} {i : Nat} (h : fE gl ul fl i) : rightB (gl.set i (gl.getD i default + 1)) (ul.set i true) (fl.take (fl.length - 1)) = true := by
  obtain ⟨⟨g1, g2, g3⟩, h2, ⟨h3, h4⟩, h5⟩ := rightB_iff.1 h.right;have hg := h.gen;refine rightB_iff.2 ⟨by simp only [List.length_set]; omega, fun x hx => ?_, ⟨fun x hx => ?_, ?_⟩, ?_⟩
  · rcases List.mem_or_eq_of_mem_set hx with hx | rfl
    · exact h2 x hx
    · omega
  · have hx' := List.mem_of_mem_take hx;obtain ⟨d1, d2, d3⟩ := h3 x hx';refine ⟨d1, by simp only [List.length_set]; exact d2, ?_⟩;have hne : x.toNat ≠ i := fun e => by
      have hlt : fl.length - 1 < fl.length := by have := h.pos; omega
      have e2 : x = Gm fl := by rw [h.last]; omega
      have hsplit : fl = fl.take (fl.length - 1) ++ [Gm fl] := by
        have := take_succ' (xs := fl) (k := fl.length - 1) hlt;rw [show fl.length - 1 + 1 = fl.length by omega, List.take_length] at this;have e3 : Gm fl = fl.getD (fl.length - 1) default := by unfold Gm; congr 1; omega
        rw [e3]; exact this
      rw [hsplit, List.nodup_append] at h4;exact h4.2.2 x hx (Gm fl) Gu e2
    have hl : x.toNat < ul.length := by omega
    rw [Ft hl] at d3;rw [Ft (by simp only [List.length_set]; exact hl), List.getElem_set_ne (fun e => hne e.symm), d3]
  · exact h4.sublist (List.take_sublist _ _)
  · rw [cntU_eq, Tz _ _ h.free, List.length_set, List.length_take];rw [cntU_eq] at h5;have := h.pos;omega
theorem allD_mem {gl : List Int} {ul : List Bool} {fl : List Int} {p q : Int} (h : rightB gl ul fl = true) : (p, q) ∈ allD gl ul fl ↔ 0 ≤ p ∧ ul[p.toNat]? = some true ∧ gl.getD p.toNat default = q := by
  rw [← AB3]; simp [allD, h]
section
variable {gl : List Int} {ul : List Bool} {fl : List Int} {i : Nat}
theorem take_has (h : fE gl ul fl i) : ((i : Int), gl.getD i default + 1) ∈ allD (gl.set i (gl.getD i default + 1)) (ul.set i true) (fl.take (fl.length - 1)) := by
  have hl : i < ul.length := (List.getElem?_eq_some_iff.1 h.free).1;refine (allD_mem (take_right h)).2 ⟨by omega, ?_, ?_⟩
  · rw [Int.toNat_natCast, List.getElem?_set_self hl]
  · rw [Int.toNat_natCast, Jk h.lt]
theorem take_others (h : fE gl ul fl i) {p q : Int} (hne : ¬ (p = (i : Int) ∧ q = gl.getD i default + 1)) : (p, q) ∈ allD gl ul fl ↔ (p, q) ∈ allD (gl.set i (gl.getD i default + 1)) (ul.set i true) (fl.take (fl.length - 1)) := by
  have hl : i < ul.length := (List.getElem?_eq_some_iff.1 h.free).1;rw [allD_mem h.right, allD_mem (take_right h)];by_cases hp : p.toNat = i
  · subst hp;rw [h.free, List.getElem?_set_self hl, Jk h.lt];constructor
    · rintro ⟨_, h2, _⟩; simp at h2
    · rintro ⟨h1, _, h3⟩;exact absurd ⟨by omega, h3.symm⟩ hne
  · rw [List.getElem?_set_ne (fun e => hp e.symm)];have : (gl.set i (gl.getD i default + 1)).getD p.toNat default = gl.getD p.toNat default := by
      simp only [List.getD, List.getElem?_set_ne (fun e => hp e.symm)]
    rw [this]
end

def Dead (p q : Int) (gl : List Int) (ul : List Bool) : Prop := 0 ≤ p ∧ p.toNat < gl.length ∧ q ≤ gl.getD p.toNat default ∧ (gl.getD p.toNat default = q → ul[p.toNat]? = some false)
theorem dead_take {p q : Int} {gl : List Int} {ul : List Bool} {fl : List Int} {i : Nat} (h : fE gl ul fl i) (hd : Dead p q gl ul) : Dead p q (gl.set i (gl.getD i default + 1)) (ul.set i true) ∧ ¬ ((i : Int) = p ∧ gl.getD i default + 1 = q) := by
  obtain ⟨h1, h2, h3, h4⟩ := hd;by_cases hp : p.toNat = i
  · subst hp;refine ⟨⟨h1, by simpa using h2, ?_, ?_⟩, ?_⟩
    · rw [Jk h.lt]; omega
    · rw [Jk h.lt]; intro e; omega
    · rintro ⟨_, e⟩; omega
  · have hg : (gl.set i (gl.getD i default + 1)).getD p.toNat default = gl.getD p.toNat default := by
      simp only [List.getD, List.getElem?_set_ne (fun e => hp e.symm)]
    refine ⟨⟨h1, by simpa using h2, by rw [hg]; exact h3, ?_⟩, fun e => hp (by rw [← e.1]; simp)⟩;rw [hg, List.getElem?_set_ne (fun e => hp e.symm)]; exact h4
theorem dead_given {p q : Int} {gl : List Int} {ul : List Bool} {fl : List Int} (h : rightB gl ul fl = true) (hm : (p, q) ∈ allD gl ul fl) : Dead p q gl (ul.set p.toNat false) := by
  obtain ⟨h1, h2, h3⟩ := (allD_mem h).1 hm;have hl := (List.getElem?_eq_some_iff.1 h2).1;have hlen := (rightB_iff.1 h).1.2.2;exact ⟨h1, by omega, by omega, fun _ => List.getElem?_set_self hl⟩
theorem give_right {p q : Int} {gl : List Int} {ul : List Bool} {fl : List Int} (h : rightB gl ul fl = true) (hm : (p, q) ∈ allD gl ul fl) : rightB gl (ul.set p.toNat false) (fl ++ [p]) = true := by
  obtain ⟨h1, h2, _⟩ := (allD_mem h).1 hm;have hl := (List.getElem?_eq_some_iff.1 h2).1;obtain ⟨⟨g1, g2, g3⟩, k2, ⟨k3, k4⟩, k5⟩ := rightB_iff.1 h;have hu : ul.getD p.toNat default = true := by rw [Ft hl]; exact (List.getElem?_eq_some_iff.1 h2).2
  refine rightB_iff.2 ⟨⟨g1, g2, by simp only [List.length_set]; exact g3⟩, k2, ⟨fun x hx => ?_, ?_⟩, ?_⟩
  · simp only [List.length_set];rcases List.mem_append.1 hx with hx | hx
    · obtain ⟨d1, d2, d3⟩ := k3 x hx;refine ⟨d1, d2, ?_⟩;have hlx : x.toNat < ul.length := by omega
      rw [Ft (by simp only [List.length_set]; exact hlx), List.getElem_set];split
      · rfl
      · rw [Ft hlx] at d3; exact d3
    · have := List.mem_singleton.1 hx;subst this;refine ⟨h1, by omega, ?_⟩;rw [Ft (by simp only [List.length_set]; exact hl), List.getElem_set_self]
  · rw [List.nodup_append];refine ⟨k4, by simp, fun a ha b hb e => ?_⟩;have := List.mem_singleton.1 hb;subst this;subst e;have := (k3 a ha).2.2;rw [hu] at this;cases this
  · have := Rv _ _ h2;rw [cntU_eq] at k5 ⊢;simp only [List.length_append, List.length_singleton];omega

def rRight_l2 (s : (List Int × List Bool × List Int)) (free_1 : Nat) (i_2 : Nat) (i_8 : Nat) : Nat → Nat → Except Bool Nat
  | 0, k_13 => .ok (k_13)
  | n_14 + 1, k_13 => (if ((k_13 : Nat) : Int) < ((i_8 : Nat) : Int) then (if (s.2.2.getD k_13 default) = (s.2.2.getD i_8 default) then .error false else (rRight_l2 s free_1 i_2 i_8 n_14 (k_13 + 1))) else .ok (k_13))
def rRight_l1 (s : (List Int × List Bool × List Int)) (free_1 : Nat) (i_2 : Nat) : Nat → Nat → Except Bool Nat
  | 0, i_8 => .ok (i_8)
  | n_9 + 1, i_8 => (if ((i_8 : Nat) : Int) < ((s.2.2.length : Nat) : Int) then (if (s.2.2.getD i_8 default) < 0 then .error false else (if ((s.1.length : Nat) : Int) ≤ (s.2.2.getD i_8 default) then .error false else (if (s.2.1.getD (((s.2.2.getD i_8 default)).toNat) default) = true then .error false else (Cc (rRight_l2 s free_1 i_2 i_8 (i_8 + 1) 0) (fun r => .error r) (fun k_13 => (rRight_l1 s free_1 i_2 n_9 (i_8 + 1))))))) else .ok (i_8))
def rRight_l0 (s : (List Int × List Bool × List Int)) : Nat → Nat → Nat → Except Bool (Nat × Nat)
  | 0, free_1, i_2 => .ok (free_1, i_2)
  | n_3 + 1, free_1, i_2 => (if ((i_2 : Nat) : Int) < ((s.1.length : Nat) : Int) then (if (s.1.getD i_2 default) < 0 then .error false else (if 1000000000 < (s.1.getD i_2 default) then .error false else (if (!(s.2.1.getD i_2 default)) = true then (rRight_l0 s n_3 (free_1 + 1) (i_2 + 1)) else (rRight_l0 s n_3 free_1 (i_2 + 1))))) else .ok (free_1, i_2))
def rRight (s : (List Int × List Bool × List Int)) : Bool := (if ((s.1.length : Nat) : Int) < 1 then false else (if 64 < ((s.1.length : Nat) : Int) then false else (if ((s.2.1.length : Nat) : Int) ≠ ((s.1.length : Nat) : Int) then false else (Hr (rRight_l0 s (s.1.length + 1) 0 0) (fun r => r) (fun free_1 i_2 => (Cc (rRight_l1 s free_1 i_2 (s.2.2.length + 1) 0) (fun r => r) (fun i_8 => decide (((s.2.2.length : Nat) : Int) = ((free_1 : Nat) : Int)))))))))
def rInts_l0 (a : List Int) (b : List Int) : Nat → Nat → Except Bool Nat
  | 0, i_1 => .ok (i_1)
  | n_2 + 1, i_1 => (if ((i_1 : Nat) : Int) < ((a.length : Nat) : Int) then (if (a.getD i_1 default) ≠ (b.getD i_1 default) then .error false else (rInts_l0 a b n_2 (i_1 + 1))) else .ok (i_1))
def rInts (a : List Int) (b : List Int) : Bool := (if ((a.length : Nat) : Int) ≠ ((b.length : Nat) : Int) then false else (Cc (rInts_l0 a b (a.length + 1) 0) (fun r => r) (fun i_1 => true)))
def rSame_l0 (a : (List Int × List Bool × List Int)) (b : (List Int × List Bool × List Int)) : Nat → Nat → Except Bool Nat
  | 0, i_1 => .ok (i_1)
  | n_2 + 1, i_1 => (if ((i_1 : Nat) : Int) < ((a.2.1.length : Nat) : Int) then (if (!((a.2.1.getD i_1 default) == (b.2.1.getD i_1 default))) = true then .error false else (rSame_l0 a b n_2 (i_1 + 1))) else .ok (i_1))
def rSame (a : (List Int × List Bool × List Int)) (b : (List Int × List Bool × List Int)) : Bool := (if (!(rInts a.1 b.1)) = true then false else (if (!(rInts a.2.2 b.2.2)) = true then false else (if ((a.2.1.length : Nat) : Int) ≠ ((b.2.1.length : Nat) : Int) then false else (Cc (rSame_l0 a b (a.2.1.length + 1) 0) (fun r => r) (fun i_1 => true)))))
theorem Ua {α : Type} [Inhabited α] {xs : List α} {i : Nat} (h : i < xs.length) : xs.drop i = xs.getD i default :: xs.drop (i + 1) := by
  rw [List.drop_eq_getElem_cons h]; simp [List.getD, h]
theorem uJ (s : List Int × List Bool × List Int) (f i2 i : Nat) : ∀ (n k : Nat), i - k < n → k ≤ i →
    (rRight_l2 s f i2 i n k = .ok i ∧ ∀ j, k ≤ j → j < i → s.2.2.getD j default ≠ s.2.2.getD i default) ∨ (rRight_l2 s f i2 i n k = .error false ∧ ∃ j, j < i ∧ s.2.2.getD j default = s.2.2.getD i default)
  | 0, k, h, _ => by omega
  | n + 1, k, h, hk => by
    simp only [rRight_l2];by_cases h1 : k < i
    · rw [if_pos z4];by_cases h2 : s.2.2.getD k default = s.2.2.getD i default
      · rw [if_pos h2]; exact .inr ⟨rfl, k, h1, h2⟩
      · rw [if_neg h2];rcases uJ s f i2 i n (k + 1) z4 z4 with ⟨e, g⟩ | ⟨e, g⟩
        · refine .inl ⟨e, fun j hj hj2 => ?_⟩;by_cases hjk : j = k
          · subst hjk; exact h2
          · exact g j z4 hj2
        · exact .inr ⟨e, g⟩
    · rw [if_neg z4];obtain rfl : k = i := by omega
      exact .inl ⟨rfl, fun j hj hj2 => by omega⟩
def oU (s : List Int × List Bool × List Int) (i : Nat) : Prop := 0 ≤ s.2.2.getD i default ∧ s.2.2.getD i default < s.1.length ∧ s.2.1.getD (s.2.2.getD i default).toNat default = false ∧ ∀ j, j < i → s.2.2.getD j default ≠ s.2.2.getD i default
theorem uK (s : List Int × List Bool × List Int) (f i2 : Nat) : ∀ (n i : Nat), s.2.2.length - i < n → i ≤ s.2.2.length →
    (rRight_l1 s f i2 n i = .ok s.2.2.length ∧ ∀ j, i ≤ j → j < s.2.2.length → oU s j) ∨ (rRight_l1 s f i2 n i = .error false ∧ ∃ j, j < s.2.2.length ∧ ¬ oU s j)
  | 0, i, h, _ => by omega
  | n + 1, i, h, hi => by
    simp only [rRight_l1];by_cases h1 : i < s.2.2.length
    · rw [if_pos z4];by_cases h2 : s.2.2.getD i default < 0
      · rw [if_pos h2]; exact .inr ⟨rfl, i, h1, fun g => by have := g.1; omega⟩
      rw [if_neg h2];by_cases h3 : (s.1.length : Int) ≤ s.2.2.getD i default
      · rw [if_pos h3]; exact .inr ⟨rfl, i, h1, fun g => by have := g.2.1; omega⟩
      rw [if_neg h3];by_cases h4 : s.2.1.getD (s.2.2.getD i default).toNat default = true
      · rw [if_pos h4]; exact .inr ⟨rfl, i, h1, fun g => by have := g.2.2.1; rw [h4] at this; cases this⟩
      rw [if_neg h4];rcases uJ s f i2 i (i + 1) 0 z4 z4 with ⟨e, g⟩ | ⟨e, j, g1, g2⟩
      · simp only [e, Cc];have hg : oU s i := ⟨by omega, by omega, by simpa using h4, fun j hj => g j z4 hj⟩
        rcases uK s f i2 n (i + 1) z4 z4 with ⟨e2, g2⟩ | ⟨e2, g2⟩
        · refine .inl ⟨e2, fun j hj hj2 => ?_⟩;by_cases hji : j = i
          · subst hji; exact hg
          · exact g2 j z4 hj2
        · exact .inr ⟨e2, g2⟩
      · simp only [e, Cc];exact .inr ⟨trivial, i, h1, fun hh => hh.2.2.2 j g1 g2⟩
    · rw [if_neg z4];obtain rfl : i = s.2.2.length := by omega
      exact .inl ⟨rfl, fun j hj hj2 => by omega⟩
theorem uL (s : List Int × List Bool × List Int) (hl : s.2.1.length = s.1.length) : ∀ (n f i : Nat), s.1.length - i < n → i ≤ s.1.length →
    (rRight_l0 s n f i = .ok (f + (s.2.1.drop i).count false, s.1.length) ∧ ∀ j, i ≤ j → j < s.1.length → 0 ≤ s.1.getD j default ∧ s.1.getD j default ≤ 1000000000) ∨ (rRight_l0 s n f i = .error false ∧ ∃ j, j < s.1.length ∧ ¬ (0 ≤ s.1.getD j default ∧ s.1.getD j default ≤ 1000000000))
  | 0, f, i, h, _ => by omega
  | n + 1, f, i, h, hi => by
    simp only [rRight_l0];by_cases h1 : i < s.1.length
    · rw [if_pos z4];by_cases h2 : s.1.getD i default < 0
      · rw [if_pos h2]; exact .inr ⟨rfl, i, h1, by omega⟩
      rw [if_neg h2];by_cases h3 : 1000000000 < s.1.getD i default
      · rw [if_pos h3]; exact .inr ⟨rfl, i, h1, by omega⟩
      rw [if_neg h3];have hd := Ua (xs := s.2.1) (i := i) z4;have key : ∀ f', (f' + (s.2.1.drop (i + 1)).count false = f + (s.2.1.drop i).count false) → ((rRight_l0 s n f' (i + 1) = .ok (f + (s.2.1.drop i).count false, s.1.length) ∧ ∀ j, i ≤ j → j < s.1.length → 0 ≤ s.1.getD j default ∧ s.1.getD j default ≤ 1000000000) ∨ (rRight_l0 s n f' (i + 1) = .error false ∧ ∃ j, j < s.1.length ∧ ¬ (0 ≤ s.1.getD j default ∧ s.1.getD j default ≤ 1000000000))) := by
        intro f' hf;rcases uL s hl n f' (i + 1) z4 z4 with ⟨e, g⟩ | ⟨e, g⟩
        · refine .inl ⟨by rw [e, hf], fun j hj hj2 => ?_⟩;by_cases hji : j = i
          · subst hji; omega
          · exact g j z4 hj2
        · exact .inr ⟨e, g⟩
      cases hb : s.2.1.getD i default
      · rw [if_pos Gu];exact key _ (by rw [hd, hb]; simp; omega)
      · rw [if_neg Gu];exact key _ (by rw [hd, hb]; simp)
    · rw [if_neg z4];obtain rfl : i = s.1.length := by omega
      refine .inl ⟨?_, fun j hj hj2 => by omega⟩;rw [List.drop_of_length_le z4]; simp
theorem bM {α : Type} [Inhabited α] {xs : List α} {j : Nat} (h : j < xs.length) : xs.getD j default ∈ xs := by
  rw [Ft h]; exact List.getElem_mem h
theorem Ub {xs : List Int} : xs.Nodup ↔ ∀ i, i < xs.length → ∀ j, j < i → xs.getD j default ≠ xs.getD i default := by
  unfold List.Nodup;rw [List.pairwise_iff_getElem];constructor
  · intro h i hi j hj;rw [Ft hi, Ft z4];exact h j i z4 hi hj
  · intro h i j hi hj hij;have := h j hj i hij
    rwa [Ft hi, Ft hj] at this
theorem Rf (s : List Int × List Bool × List Int) : rRight s = true ↔ (1 ≤ s.1.length ∧ s.1.length ≤ 64 ∧ s.2.1.length = s.1.length) ∧ (∀ j, j < s.1.length → 0 ≤ s.1.getD j default ∧ s.1.getD j default ≤ 1000000000) ∧ (∀ j, j < s.2.2.length → oU s j) ∧ s.2.2.length = s.2.1.count false := by
  unfold rRight;by_cases h1 : (s.1.length : Int) < 1
  · rw [if_pos h1]; simp only [Bool.false_eq_true, false_iff]; omega
  rw [if_neg h1];by_cases h2 : 64 < (s.1.length : Int)
  · rw [if_pos h2]; simp only [Bool.false_eq_true, false_iff]; omega
  rw [if_neg h2];by_cases h3 : (s.2.1.length : Int) = (s.1.length : Int)
  · rw [if_neg (by simpa using h3)];rcases uL s z4 (s.1.length + 1) 0 0 z4 z4 with ⟨e, g⟩ | ⟨e, j, g1, g2⟩
    · simp only [e, Hr];rcases uK s (0 + (s.2.1.drop 0).count false) s.1.length (s.2.2.length + 1) 0 z4 z4 with ⟨e2, k⟩ | ⟨e2, j, k1, k2⟩
      · rw [e2];simp only [Cc, decide_eq_true_eq, List.drop_zero];constructor
        · intro h;exact ⟨by omega, fun j hj => g j z4 hj, fun j hj => k j z4 hj, by omega⟩
        · rintro ⟨_, _, _, h⟩; omega
      · rw [e2];simp only [Cc, Bool.false_eq_true, false_iff];rintro ⟨_, _, h, _⟩;exact k2 (h j k1)
    · simp only [e, Hr, Bool.false_eq_true, false_iff];rintro ⟨_, h, _⟩;exact g2 (h j g1)
  · rw [if_pos (by simpa using h3)]; simp only [Bool.false_eq_true, false_iff]; omega
theorem jE (l : List Bool) : l.count true + l.count false = l.length := by
  induction l with
  | nil => rfl
  | cons a l ih => cases a <;> simp <;> omega
theorem rRight_eq (s : List Int × List Bool × List Int) : rRight s = rightB s.1 s.2.1 s.2.2 := by
  rw [Bool.eq_iff_iff, Rf, rightB_iff];have hc := cntU_eq s.2.1;have h2 := jE s.2.1;constructor
  · rintro ⟨h1, h3, h4, h5⟩;refine ⟨h1, fun x hx => ?_, ⟨fun x hx => ?_, ?_⟩, by omega⟩
    · obtain ⟨j, hj, rfl⟩ := List.getElem_of_mem hx;have := h3 j hj
      rwa [Ft hj] at this
    · obtain ⟨j, hj, rfl⟩ := List.getElem_of_mem hx;have := h4 j hj;unfold oU at this;rw [Ft hj] at this;exact ⟨this.1, by omega, this.2.2.1⟩
    · exact Ub.2 fun i hi j hj => (h4 i hi).2.2.2 j hj
  · rintro ⟨h1, h3, ⟨h4, h5⟩, h6⟩;refine ⟨h1, fun j hj => h3 _ (bM hj), fun j hj => ?_, by omega⟩;obtain ⟨a, b, c⟩ := h4 _ (bM hj);exact ⟨a, by omega, c, Ub.1 h5 j hj⟩
theorem rRight_t {s : List Int × List Bool × List Int} (h : rRight s = true) : 1 ≤ s.1.length ∧ s.1.length ≤ 64 ∧ s.2.1.length = s.1.length ∧ s.2.2.length ≤ 64 ∧ (s.2.2.length ≠ 0 → 0 ≤ s.2.2.getD ((s.2.2.length : Int) - 1).toNat default ∧ s.2.2.getD ((s.2.2.length : Int) - 1).toNat default < s.1.length ∧ 0 ≤ s.1.getD (s.2.2.getD ((s.2.2.length : Int) - 1).toNat default).toNat default ∧ s.1.getD (s.2.2.getD ((s.2.2.length : Int) - 1).toNat default).toNat default ≤ 1000000000) := by
  have h0 := (Rf s).1 h;rw [rRight_eq] at h;have hc := jE s.2.1;refine ⟨h0.1.1, h0.1.2.1, h0.1.2.2, by omega, fun hn => ?_⟩;obtain ⟨a, b, _, c, d⟩ := Xn h hn;exact ⟨a, b, c, d⟩

def rValid (s : (List Int × List Bool × List Int)) (h : (Int × Int)) : Bool := (if (rRight s) = true then (if 0 ≤ h.1 then (if h.1 < ((s.1.length : Nat) : Int) then (if (s.2.1.getD ((h.1).toNat) default) = true then decide ((s.1.getD ((h.1).toNat) default) = h.2) else false) else false) else false) else false)
def rAll_l0 (s : (List Int × List Bool × List Int)) : Nat → List (Int × Int) → Nat → (List (Int × Int)) × Nat
  | 0, out_1, i_2 => (out_1, i_2)
  | n_3 + 1, out_1, i_2 => (if ((i_2 : Nat) : Int) < ((s.1.length : Nat) : Int) then (if (rRight s) = true then (if (s.2.1.getD i_2 default) = true then (rAll_l0 s n_3 (out_1 ++ ([(((i_2 : Nat) : Int), (s.1.getD i_2 default))] : List (Int × Int))) (i_2 + 1)) else (rAll_l0 s n_3 out_1 (i_2 + 1))) else (out_1, i_2)) else (out_1, i_2))
def rAll (s : (List Int × List Bool × List Int)) : List (Int × Int) := (Pn (rAll_l0 s (s.1.length + 1) [] 0) (fun out_1 i_2 => out_1))
def rTake (s : (List Int × List Bool × List Int)) : (List Int × List Bool × List Int) × (Int × Int) × Int := (if (!(rRight s)) = true then (([], [], []), (0, 0), 90) else (if (((s.2.2.length : Nat) : Int) - 1) < 0 then (([], [], []), (0, 0), 92) else (if (s.1.getD (((s.2.2.getD (((((s.2.2.length : Nat) : Int) - 1)).toNat) default)).toNat) default) = 1000000000 then (([], [], []), (0, 0), 92) else (((((s).1).set (((((s).2.2).getD (((((s.2.2.length : Nat) : Int) - 1)).toNat) default)).toNat) ((((s).1).getD (((((s).2.2).getD (((((s.2.2.length : Nat) : Int) - 1)).toNat) default)).toNat) default) + 1)), (((s).2.1).set (((((s).2.2).getD (((((s.2.2.length : Nat) : Int) - 1)).toNat) default)).toNat) true), (((s).2.2).take (((((s.2.2.length : Nat) : Int) - 1)).toNat))), ((((s).2.2).getD (((((s.2.2.length : Nat) : Int) - 1)).toNat) default), ((((s).1).set (((((s).2.2).getD (((((s.2.2.length : Nat) : Int) - 1)).toNat) default)).toNat) ((((s).1).getD (((((s).2.2).getD (((((s.2.2.length : Nat) : Int) - 1)).toNat) default)).toNat) default) + 1)).getD (((((s).2.2).getD (((((s.2.2.length : Nat) : Int) - 1)).toNat) default)).toNat) default)), 0))))
def rGive (s : (List Int × List Bool × List Int)) (h : (Int × Int)) : (List Int × List Bool × List Int) × Int := (if (!(rRight s)) = true then (([], [], []), 90) else (if (!(rValid s h)) = true then (([], [], []), 91) else ((((s).1), (((s).2.1).set ((h.1).toNat) false), (((s).2.2) ++ ([h.1] : List Int))), 0)))

theorem getD_ext {α : Type} [Inhabited α] {a b : List α} (h : a.length = b.length) (h2 : ∀ j, j < a.length → a.getD j default = b.getD j default) : a = b := by
  refine List.ext_getElem h fun j h3 h4 => ?_
  have := h2 j h3
  rwa [Ft h3, Ft h4] at this
theorem cmp_spec {α : Type} [Inhabited α] (a b : List α) (l : Nat → Nat → Except Bool Nat) (h0 : ∀ n k, a.length ≤ k → l (n + 1) k = .ok k) (h1 : ∀ n k, k < a.length → a.getD k default = b.getD k default → l (n + 1) k = l n (k + 1)) (h2 : ∀ n k, k < a.length → a.getD k default ≠ b.getD k default → l (n + 1) k = .error false) (hl : a.length = b.length) :
    ∀ n k, a.length - k < n → k ≤ a.length → (l n k = .ok a.length ∧ ∀ j, k ≤ j → j < a.length → a.getD j default = b.getD j default) ∨ (l n k = .error false ∧ a ≠ b)
  | 0, k, h, _ => by omega
  | n + 1, k, h, hk => by
    by_cases c1 : k < a.length
    · by_cases c2 : a.getD k default = b.getD k default
      · rw [h1 n k c1 c2];rcases cmp_spec a b l h0 h1 h2 hl n (k + 1) z4 z4 with ⟨e, g⟩ | ⟨e, g⟩
        · refine .inl ⟨e, fun j hj hj2 => ?_⟩;by_cases hjk : j = k
          · subst hjk; exact c2
          · exact g j z4 hj2
        · exact .inr ⟨e, g⟩
      · exact .inr ⟨h2 n k c1 c2, fun e => c2 (by rw [e])⟩
    · obtain rfl : k = a.length := by omega
      exact .inl ⟨h0 n _ (Nat.le_refl _), fun j hj hj2 => by omega⟩
theorem yA (a b : List Int) : rInts a b = true ↔ a = b := by
  unfold rInts;by_cases hl : a.length = b.length
  · rw [if_neg z4];rcases cmp_spec a b (rInts_l0 a b) (fun n k h => by simp only [rInts_l0]; rw [if_neg z4]) (fun n k h e => by simp only [rInts_l0]; rw [if_pos z4, if_neg (by simpa using e)]) (fun n k h e => by simp only [rInts_l0]; rw [if_pos z4, if_pos e]) hl (a.length + 1) 0 z4 z4 with ⟨e, g⟩ | ⟨e, g⟩
    · simp only [e, Cc, true_iff]; exact getD_ext hl fun j hj => g j z4 hj
    · simp only [e, Cc, Bool.false_eq_true, false_iff]; exact g
  · rw [if_pos z4];simp only [Bool.false_eq_true, false_iff]; exact fun e => hl (by rw [e])
theorem rSame_iff (a b : List Int × List Bool × List Int) : rSame a b = true ↔ a = b := by
  unfold rSame;obtain ⟨a1, a2, a3⟩ := a;obtain ⟨b1, b2, b3⟩ := b;have e1 : ∀ x y, rInts x y = decide (x = y) := fun x y => by rw [Bool.eq_iff_iff, yA]; simp
  simp only [e1];by_cases h1 : a1 = b1
  · by_cases h3 : a3 = b3
    · rw [if_neg (by simp [h1]), if_neg (by simp [h3])];by_cases hl : a2.length = b2.length
      · rw [if_neg z4];rcases cmp_spec a2 b2 (rSame_l0 (a1, a2, a3) (b1, b2, b3)) (fun n k h => by simp only [rSame_l0]; rw [if_neg z4]) (fun n k h e => by simp only [rSame_l0]; rw [if_pos z4, if_neg (by simpa using e)]) (fun n k h e => by simp only [rSame_l0]; rw [if_pos z4, if_pos (by simpa using e)]) hl (a2.length + 1) 0 z4 z4 with ⟨e, g⟩ | ⟨e, g⟩
        · simp only [e, Cc, true_iff];rw [h1, h3, getD_ext hl fun j hj => g j z4 hj]
        · simp only [e, Cc, Bool.false_eq_true, false_iff];intro h; simp only [Prod.mk.injEq] at h; exact g h.2.1
      · rw [if_pos z4];simp only [Bool.false_eq_true, false_iff];intro h; simp only [Prod.mk.injEq] at h; exact hl (by rw [h.2.1])
    · rw [if_neg (by simp [h1]), if_pos (by simp [h3])]; simp [h3]
  · rw [if_pos (by simp [h1])]; simp [h1]
theorem rValid_eq (s : List Int × List Bool × List Int) (h : Int × Int) : rValid s h = decide ((h.1, h.2) ∈ allD s.1 s.2.1 s.2.2) := by
  unfold rValid;rw [rRight_eq, Bool.eq_iff_iff, decide_eq_true_eq];cases hr : rightB s.1 s.2.1 s.2.2
  · rw [if_neg Gu, all_no hr]; simp
  · have hlen := (rightB_iff.1 hr).1.2.2;rw [if_pos rfl, allD_mem hr];by_cases h0 : 0 ≤ h.1
    · rw [if_pos h0];by_cases h1 : h.1 < (s.1.length : Int)
      · rw [if_pos h1];have hlt : h.1.toNat < s.2.1.length := by omega
        rw [Ft hlt, List.getElem?_eq_getElem hlt];by_cases h2 : s.2.1[h.1.toNat] = true
        · rw [if_pos h2]; simp [h2, h0]
        · rw [if_neg h2]; simp at h2; simp [h2]
      · rw [if_neg h1];simp only [Bool.false_eq_true, false_iff];rintro ⟨_, hu, _⟩;have := (List.getElem?_eq_some_iff.1 hu).1;omega
    · rw [if_neg h0]; simp [h0]
theorem rValid_t {s : List Int × List Bool × List Int} {h : Int × Int} (hv : rValid s h = true) : 0 ≤ h.1 ∧ h.1 < (s.1.length : Int) ∧ s.2.1.length = s.1.length ∧ s.1.length ≤ 64 ∧ s.2.2.length ≤ 64 := by
  unfold rValid at hv;split at hv
  · rename_i hr
    have h2 := rRight_t hr;split at hv
    · rename_i h0
      split at hv
      · rename_i h1
        exact ⟨h0, h1, h2.2.2.1, h2.2.1, h2.2.2.2.1⟩
      · cases hv
    · cases hv
  · cases hv
theorem aS (s : List Int × List Bool × List Int) (hr : rRight s = true) (hl : s.2.1.length = s.1.length) : ∀ (n i : Nat) (out : List (Int × Int)), s.1.length - i < n → i ≤ s.1.length → (rAll_l0 s n out i).1 = out ++ (usedIx i (s.2.1.drop i)).map fun j : Nat => ((j : Int), s.1.getD j default)
  | 0, i, out, h, _ => by omega
  | n + 1, i, out, h, hi => by
    simp only [rAll_l0];by_cases h1 : i < s.1.length
    · rw [if_pos z4, if_pos hr];rw [Ua (xs := s.2.1) (i := i) z4];cases hb : s.2.1.getD i default
      · rw [if_neg Gu, aS s hr hl n (i + 1) _ z4 z4];simp [usedIx]
      · rw [if_pos rfl, aS s hr hl n (i + 1) _ z4 z4];simp [usedIx]
    · rw [if_neg z4, List.drop_of_length_le z4];simp [usedIx]
theorem rAll_eq (s : List Int × List Bool × List Int) : rAll s = allD s.1 s.2.1 s.2.2 := by
  unfold rAll;simp only [Pn];cases hr : rRight s
  · rw [rRight_eq] at hr;rw [all_no hr];rw [← rRight_eq] at hr;simp only [rAll_l0, hr];split <;> simp
  · have h2 := rRight_t hr;rw [aS s hr h2.2.2.1 _ _ _ z4 z4];rw [rRight_eq] at hr;simp [allD, hr, hnd]
theorem rTake_eq (s : List Int × List Bool × List Int) : rTake s = takeD s.1 s.2.1 s.2.2 := by
  unfold rTake;rw [rRight_eq];cases hr : rightB s.1 s.2.1 s.2.2
  · rw [uI hr, if_pos Gu]
  · rw [if_neg Gu];by_cases h1 : s.2.2.length = 0
    · rw [if_pos z4, aR hr (.inl h1)]
    rw [if_neg z4];obtain ⟨a, b, c, d, e⟩ := Xn hr h1;by_cases h2 : s.1.getD (s.2.2.getD ((s.2.2.length : Int) - 1).toNat default).toNat default = 1000000000
    · rw [if_pos h2, aR hr (.inr h2)]
    · rw [if_neg h2, oT hr h1 h2];simp only [Jk (show (s.2.2.getD ((s.2.2.length : Int) - 1).toNat default).toNat < s.1.length by omega)];rw [show ((s.2.2.length : Int) - 1).toNat = s.2.2.length - 1 by omega];simp only [Gm, show ((s.2.2.length : Int) - 1).toNat = s.2.2.length - 1 by omega]
theorem rGive_eq (s : List Int × List Bool × List Int) (h : Int × Int) : rGive s h = giveD s.1 s.2.1 s.2.2 h.1 h.2 := by
  unfold rGive giveD;rw [rRight_eq, rValid_eq];cases hr : rightB s.1 s.2.1 s.2.2
  · simp
  · rw [if_neg Gu, if_pos rfl];by_cases hm : (h.1, h.2) ∈ allD s.1 s.2.1 s.2.2
    · rw [if_neg (by simp [hm]), if_pos hm]
    · rw [if_pos (by simp [hm]), if_neg hm]
theorem rZ (gl : List Int) (ul : List Bool) (fl : List Int) : (allD gl ul fl).length ≤ 64 := by
  cases hr : rightB gl ul fl
  · rw [all_no hr]; simp
  · have := (rightB_iff.1 hr).1;have h2 : (allD gl ul fl).length ≤ ul.length := AB2;omega
theorem rAll_len (s : List Int × List Bool × List Int) : (rAll s).length ≤ 64 := by rw [rAll_eq]; exact rZ _ _ _
theorem fF {gl : List Int} {ul : List Bool} {fl : List Int} (h : rightB gl ul fl = true) : 1 ≤ gl.length ∧ gl.length ≤ 64 ∧ ul.length = gl.length ∧ fl.length ≤ 64 := by
  have h1 := rightB_iff.1 h;omega
theorem yB (gl : List Int) (ul : List Bool) (fl : List Int) : (takeD gl ul fl).1.1.length ≤ 64 ∧ (takeD gl ul fl).1.2.1.length ≤ 64 ∧ (takeD gl ul fl).1.2.2.length ≤ 64 := by
  unfold takeD;split
  · rename_i h
    have := fF h;split
    · simp
    · simp; omega
  · simp
theorem rTake_len (s : List Int × List Bool × List Int) : (rTake s).1.1.length ≤ 64 ∧ (rTake s).1.2.1.length ≤ 64 ∧ (rTake s).1.2.2.length ≤ 64 := by rw [rTake_eq]; exact yB _ _ _
theorem yC (gl : List Int) (ul : List Bool) (fl : List Int) (p q : Int) : (giveD gl ul fl p q).1.1.length ≤ 64 ∧ (giveD gl ul fl p q).1.2.1.length ≤ 64 ∧ (giveD gl ul fl p q).1.2.2.length ≤ 65 := by
  unfold giveD;split
  · rename_i h
    have := fF h;split
    · simp; omega
    · simp
  · simp
theorem rGive_len (s : List Int × List Bool × List Int) (h : Int × Int) : (rGive s h).1.1.length ≤ 64 ∧ (rGive s h).1.2.1.length ≤ 64 ∧ (rGive s h).1.2.2.length ≤ 65 := by rw [rGive_eq]; exact yC _ _ _ _ _

end Go.Proofs.YtopjaeoklkpcpaaGreatDoor.Jd.SlT

namespace Go.Proofs.YtopjaeoklkpcpaaGreatDoor.Jd
open Go.Proofs.Tryz
set_option linter.unusedVariables false
set_option linter.unusedSimpArgs false
def sT (s : Slots) : List Int × List Bool × List Int := (s.gens, s.used, s.free)
def hT (h : Handle) : Int × Int := (h.slot, h.gen)
theorem aT {a b : Handle} (h : hT a = hT b) : a = b := by
  cases a; cases b; simp [hT] at h; simp [h]
theorem sA {a b : Slots} (h : sT a = sT b) : a = b := by
  cases a; cases b; simp [sT] at h; simp [h]
theorem Wh (s : Slots) (f i2 i : Nat) : ∀ n k, Lg s f i2 i n k = SlT.rRight_l2 (sT s) f i2 i n k
  | 0, k => rfl
  | n + 1, k => by
    unfold Lg SlT.rRight_l2;rw [Wh s f i2 i n (k + 1)]; rfl
theorem Wi (s : Slots) (f i2 : Nat) : ∀ n k, Lh s f i2 n k = SlT.rRight_l1 (sT s) f i2 n k
  | 0, k => rfl
  | n + 1, k => by
    unfold Lh SlT.rRight_l1;rw [Wi s f i2 n (k + 1), Wh]; rfl
theorem Pw (s : Slots) : ∀ n f k, Jx s n f k = SlT.rRight_l0 (sT s) n f k
  | 0, f, k => rfl
  | n + 1, f, k => by
    unfold Jx SlT.rRight_l0;rw [Pw s n (f + 1) (k + 1), Pw s n f (k + 1)]; rfl
theorem Kj (s : Slots) : Jp s = SlT.rRight (sT s) := by
  unfold Jp SlT.rRight;simp only [Pw, Wi]; rfl
theorem sB (s : Slots) : Jp s = SlT.rightB s.gens s.used s.free := by rw [Kj, SlT.rRight_eq]; rfl
theorem Qs {s : Slots} (h : Jp s = true) : 1 ≤ s.gens.length ∧ s.gens.length ≤ 64 ∧ s.used.length = s.gens.length ∧ s.free.length ≤ 64 ∧ (s.free.length ≠ 0 → 0 ≤ s.free.getD ((s.free.length : Int) - 1).toNat default ∧ s.free.getD ((s.free.length : Int) - 1).toNat default < s.gens.length ∧ 0 ≤ s.gens.getD (s.free.getD ((s.free.length : Int) - 1).toNat default).toNat default ∧ s.gens.getD (s.free.getD ((s.free.length : Int) - 1).toNat default).toNat default ≤ 1000000000) := SlT.rRight_t (s := sT s) (by rw [← Kj]; exact h)
theorem Zl (a b : List Int) : ∀ n k, Ng a b n k = SlT.rInts_l0 a b n k
  | 0, k => rfl
  | n + 1, k => by unfold Ng SlT.rInts_l0; rw [Zl a b n (k + 1)]
theorem yD (a b : List Int) : aP a b = SlT.rInts a b := by unfold aP SlT.rInts; simp only [Zl]
theorem Zm (a b : Slots) : ∀ n k, Nh a b n k = SlT.rSame_l0 (sT a) (sT b) n k
  | 0, k => rfl
  | n + 1, k => by unfold Nh SlT.rSame_l0; rw [Zm a b n (k + 1)]; rfl
theorem fG (a b : Slots) : Xm a b = true ↔ a = b := by
  have e : Xm a b = SlT.rSame (sT a) (sT b) := by unfold Xm SlT.rSame; simp only [Zm, yD]; rfl
  rw [e, SlT.rSame_iff];exact ⟨sA, fun h => h ▸ rfl⟩
theorem Uc (s : Slots) (h : Handle) : Rl s h = SlT.rValid (sT s) (hT h) := by
  unfold Rl SlT.rValid;rw [Kj]; rfl
theorem yE {s : Slots} {h : Handle} (e : Rl s h = true) : 0 ≤ h.slot ∧ h.slot < (s.gens.length : Int) ∧ s.used.length = s.gens.length ∧ s.gens.length ≤ 64 ∧ s.free.length ≤ 64 := SlT.rValid_t (s := sT s) (h := hT h) (by rw [← Uc]; exact e)
theorem Ud (s : Slots) : ∀ n out k, ((Ma s n out k).1.map hT, (Ma s n out k).2) = SlT.rAll_l0 (sT s) n (out.map hT) k
  | 0, out, k => rfl
  | n + 1, out, k => by
    unfold Ma SlT.rAll_l0;rw [Kj];show _ = (if ((k : Nat) : Int) < ((s.gens.length : Nat) : Int) then _ else _)
    split
    · split
      · show _ = (if s.used.getD k default = true then _ else _)
        split
        · rw [Ud s n _ (k + 1)]; simp [hT, sT]
        · rw [Ud s n _ (k + 1)]
      · rfl
    · rfl
theorem jF (s : Slots) : (Jj s).map hT = SlT.rAll (sT s) := by
  have h := congrArg Prod.fst (Ud s (s.gens.length + 1) [] 0);simpa [Jj, SlT.rAll, Pn, sT] using h
theorem L5 (s : Slots) : (Jj s).map hT = SlT.allD s.gens s.used s.free := by rw [jF, SlT.rAll_eq]; rfl
theorem fH (s : Slots) : (sT (Df s).1, hT (Df s).2.1, (Df s).2.2) = SlT.rTake (sT s) := by
  unfold Df SlT.rTake;rw [Kj]
  repeat' split
  all_goals first | rfl | contradiction
theorem fI (s : Slots) (h : Handle) : (sT (Gp s h).1, (Gp s h).2) = SlT.rGive (sT s) (hT h) := by
  unfold Gp SlT.rGive;rw [Kj, Uc]
  repeat' split
  all_goals first | rfl | contradiction
theorem yF (s : Slots) : (Jj s).length ≤ 64 := by
  have h := SlT.rAll_len (sT s);rw [← jF, List.length_map] at h; exact h
theorem sC (s : Slots) : (Df s).1.gens.length ≤ 64 ∧ (Df s).1.used.length ≤ 64 ∧ (Df s).1.free.length ≤ 64 := by
  have h := SlT.rTake_len (sT s);rw [← fH] at h; exact h
theorem sD (s : Slots) (h : Handle) : (Gp s h).1.gens.length ≤ 64 ∧ (Gp s h).1.used.length ≤ 64 ∧ (Gp s h).1.free.length ≤ 65 := by
  have e := SlT.rGive_len (sT s) (hT h);rw [← fI] at e; exact e
end Go.Proofs.YtopjaeoklkpcpaaGreatDoor.Jd

namespace Go.Proofs.YtopjaeoklkpcpaaGreatDoor.Jd
open Go.Proofs.Tryz
open Go.Proofs
open Go.RowKit (Below)
set_option maxRecDepth 100000
set_option maxHeartbeats 8000000
set_option linter.unusedVariables false
set_option linter.unusedSimpArgs false
theorem AB4 : Bq Tryz.prog 42 1 1 := fun r k w => by simp [Instr.fieldAt, Instr.sureAddr, fieldPlace, Bh]
theorem Ro (w : World) {s_gens_a : Option Addr} {s_gens_c : Nat} {s_used_a : Option Addr} {s_used_c : Nat} {s_free_a : Option Addr} {s_free_c : Nat} {s : Slots} (h_s_gens : Sl w eI 1 s_gens_a s.gens) (n_s_gens : s.gens.length ≤ 1000) (h_s_used : Sl w eB 1 s_used_a s.used) (n_s_used : s.used.length ≤ 1000) (h_s_free : Sl w eI 1 s_free_a s.free) (n_s_free : s.free.length ≤ 1000) : Jc Tryz.prog 68 [(Value.agg [(vs s_gens_a s.gens.length s_gens_c), (vs s_used_a s.used.length s_used_c), (vs s_free_a s.free.length s_free_c)].toArray)] w (Value.bool (Jp s)) := by
 have hF := Is.refl (Jp s);refine enter func68 ntmps68 (h := ?_);refine Z2 ?_;refine Aj Af Jq (k := fun r1 p4 => ?_);refine Mp ?_;refine zZ ?_;refine Lo ?_;refine Qb ?_;refine Ar 13 rfl (fun a9 => ?_) (fun a9 => ?_)
 ·refine Ag 2 rfl ?_;refine Sn ?_;refine Ag 5 rfl ?_;refine Rz ?_;refine Ad results68 z1 (fun w1 hw1 => ?_);exact ⟨(rq (hF.pos a9)), hw1.ext_out⟩
 refine bT ?_;refine Pz ?_;refine Ar 17 rfl (fun b9 => ?_) (fun b9 => ?_)
 ·refine Ag 5 rfl ?_;refine Rz ?_;refine Ad results68 z1 (fun w1 hw1 => ?_);exact ⟨(rq ((hF.neg a9).pos b9)), hw1.ext_out⟩
 refine vK ?_;refine Hw ?_;refine Ay Mj (k := ?_);refine Rt ?_;refine Av rfl (fun c7 => ?_) (fun c7 => ?_)
 ·refine Bp ?_;refine Qc ?_;refine Ad results68 z1 (fun w1 hw1 => ?_);exact ⟨(rq (((hF.neg a9).neg b9).pos c7)), hw1.ext_out⟩
 refine Nm ?_;refine Un ?_;refine Sc ?_;refine cJ (σ1 := Nat) (σ2 := Nat) (σ3 := Nat) (fun n_3 free_1 i_2 => ((r1, oc [(vs s_gens_a s.gens.length s_gens_c), (vs s_used_a s.used.length s_used_c), (vs s_free_a s.free.length s_free_c)] 25) :: [])) (fun n_3 free_1 i_2 => [(1, (Value.pointer (some ⟨r1, 0, none⟩))), (2, (Value.bool false)), (3, (vi ((s.gens.length : Nat) : Int))), (4, (vi ((free_1 : Nat) : Int))), (5, (vi ((i_2 : Nat) : Int)))]) (fun n_3 free_1 i_2 => s.gens.length - i_2 < n_3 ∧ Is (Jx s (s.gens.length + 1) 0 0) (Jx s n_3 free_1 i_2) ∧ free_1 ≤ i_2 ∧ i_2 ≤ s.gens.length) (fun n_3 free_1 i_2 => n_3) (s.gens.length + 1) 0 0 ?_ se (List.Perm.refl _) ?_
 ·exact ⟨Nat.lt_succ_self _, Is.refl _, Na, Na⟩
 ·rintro (_ | n_3) free_1 i_2 ⟨hm5, aa, hi6, hi7⟩
  ·omega
  refine mW ?_;refine fN ?_;refine Av rfl (fun c8 => ?_) (fun c8 => ?_)
  ·refine Bt ?_;refine Hq ?_;refine O0 ?_;refine Fj ?_;refine Z2 ?_;refine qH ?_;refine AS7 ?_;refine Qb ?_;refine Ar 35 rfl (fun d5 => ?_) (fun d5 => ?_)
   ·refine Ag 6 rfl ?_;refine Rz ?_;refine Wv ?_;refine Ad results68 z1 (fun w1 hw1 => ?_);exact ⟨(rq ((((hF.neg a9).neg b9).neg c7).er2 ((aa.pos c8).pos d5))), hw1.ext_out⟩
   refine zT ?_;refine Hw ?_;refine Ay (Cj (n := s.gens.length) runUnderlying22 sizeOf3 i_2 Sp (gD z3) Km) (k := ?_);refine Ay (Cb isAgg3 i_2 0 Sp (gD z3)) (k := ?_);refine Ay Ka (k := ?_);refine Rt ?_;refine Av rfl (fun d8 => ?_) (fun d8 => ?_)
   ·refine Bp ?_;refine Qc ?_;refine Wv ?_;refine Ad results68 z1 (fun w1 hw1 => ?_);exact ⟨(rq ((((hF.neg a9).neg b9).neg c7).er2 (((aa.pos c8).neg d5).pos d8))), hw1.ext_out⟩
   refine Nm ?_;refine lV ?_;refine Cr ?_;refine AS8 ?_;refine Zu ?_;refine Cx rfl (fun k6 => ?_) (fun k6 => ?_);rotate_left
   ·refine Bt ?_;refine Qe ?_;exact Ov n_3 free_1 (i_2 + 1) ⟨by omega, ((((aa.pos c8).neg d5).neg d8).f k6), z4, z4⟩ (Nat.lt_succ_self _) se (List.Perm.refl _)
   refine Ch ?_;refine qD ?_;refine Qe ?_;exact Ov n_3 (free_1 + 1) (i_2 + 1) ⟨by omega, ((((aa.pos c8).neg d5).neg d8).t k6), z4, z4⟩ (Nat.lt_succ_self _) se (List.Perm.refl _)
  refine Cz ?_;refine Vj ?_;refine Fj ?_;refine Sc ?_;refine Fi (σ1 := Nat) (σ2 := Nat) (fun n_9 i_8 => ((r1, oc [(vs s_gens_a s.gens.length s_gens_c), (vs s_used_a s.used.length s_used_c), (vs s_free_a s.free.length s_free_c)] 25) :: [])) (fun n_9 i_8 => [(1, (Value.pointer (some ⟨r1, 0, none⟩))), (2, (Value.bool false)), (3, (vi ((s.gens.length : Nat) : Int))), (4, (vi ((free_1 : Nat) : Int))), (6, (vi ((i_8 : Nat) : Int)))]) (fun n_9 i_8 => s.free.length - i_8 < n_9 ∧ Is (Lh s free_1 i_2 (s.free.length + 1) 0) (Lh s free_1 i_2 n_9 i_8) ∧ i_8 ≤ s.free.length) (fun n_9 i_8 => n_9) (s.free.length + 1) 0 ?_ se (List.Perm.refl _) ?_
  ·exact ⟨Nat.lt_succ_self _, Is.refl _, Na⟩
  ·rintro (_ | n_9) i_8 ⟨hm11, eb, hi12⟩
   ·omega
   refine Fj ?_;refine Z5 ?_;refine jT ?_;refine fN ?_;refine Av rfl (fun i7 => ?_) (fun i7 => ?_);rotate_left
   ·refine Cz ?_;refine Vj ?_;refine Z2 ?_;refine jT ?_;refine Cr ?_;refine Ah Gy (k := ?_);refine Z9 ?_;refine Ad results68 z1 (fun w1 hw1 => ?_);exact ⟨(rq (((((hF.neg a9).neg b9).neg c7).ok2 (aa.neg c8)).ok1 (eb.neg i7))), hw1.ext_out⟩
   refine Qf ?_;refine Fj ?_;refine Fj ?_;refine Fg Cy 26 [(true, 0), (true, 1), (true, 2), (true, 3), (true, 4), (true, 5), (true, 6), (true, 7), (true, 8), (true, 9), (true, 10), (true, 11), (true, 12), (true, 13), (true, 14), (true, 15), (true, 16), (true, 17), (true, 18), (true, 19), (true, 20), (true, 21), (true, 22), (true, 23), (true, 24), (true, 25)] z5 ?_;refine jQ ?_;refine Gg ?_;refine AS9 ?_;refine mN ?_;refine Fh 64 rfl (fun j0 => ?_) (fun j0 => ?_)
   ·refine Bn 7 rfl ?_;refine lS ?_;refine Bn 9 rfl ?_;refine kB ?_;refine Qa ?_;refine Wv ?_;refine Ad results68 z1 (fun w1 hw1 => ?_);exact ⟨(rq (((((hF.neg a9).neg b9).neg c7).ok2 (aa.neg c8)).er1 ((eb.pos i7).pos j0))), hw1.ext_out⟩
   refine vO ?_;refine AS4 ?_;refine aC ?_;refine Bm Kn (k := ?_);refine Pk ?_;refine Fh 73 rfl (fun f9 => ?_) (fun f9 => ?_)
   ·refine Bn 9 rfl ?_;refine kB ?_;refine Qa ?_;refine Wv ?_;refine Ad results68 z1 (fun w1 hw1 => ?_);exact ⟨(rq (((((hF.neg a9).neg b9).neg c7).ok2 (aa.neg c8)).er1 (((eb.pos i7).neg j0).pos f9))), hw1.ext_out⟩
   refine AJ2 ?_;refine vO ?_;refine AS4 ?_;refine Bm (Cj (n := s.used.length) runUnderlying23 sizeOf4 ((s.free.getD i_8 default).toNat) Sq (gD z3) Km) (k := ?_);refine Bm (Cb isAgg4 ((s.free.getD i_8 default).toNat) 0 Sq (gD z3)) (k := ?_);refine Vk ?_;refine Cx rfl (fun j5 => ?_) (fun j5 => ?_)
   ·refine Bp ?_;refine Qc ?_;refine Wv ?_;refine Ad results68 z1 (fun w1 hw1 => ?_);exact ⟨(rq (((((hF.neg a9).neg b9).neg c7).ok2 (aa.neg c8)).er1 ((((eb.pos i7).neg j0).neg f9).t j5))), hw1.ext_out⟩
   refine Xv ?_;refine Sc ?_;refine Fi (σ1 := Nat) (σ2 := Nat) (fun n_14 k_13 => ((r1, oc [(vs s_gens_a s.gens.length s_gens_c), (vs s_used_a s.used.length s_used_c), (vs s_free_a s.free.length s_free_c)] 25) :: [])) (fun n_14 k_13 => [(1, (Value.pointer (some ⟨r1, 0, none⟩))), (2, (Value.bool false)), (3, (vi ((s.gens.length : Nat) : Int))), (4, (vi ((free_1 : Nat) : Int))), (6, (vi ((i_8 : Nat) : Int))), (7, (vi ((k_13 : Nat) : Int)))]) (fun n_14 k_13 => i_8 - k_13 < n_14 ∧ Is (Lg s free_1 i_2 i_8 (i_8 + 1) 0) (Lg s free_1 i_2 i_8 n_14 k_13) ∧ k_13 ≤ i_8) (fun n_14 k_13 => n_14) (i_8 + 1) 0 ?_ se (List.Perm.refl _) ?_
   ·exact ⟨Nat.lt_succ_self _, Is.refl _, Na⟩
   ·rintro (_ | n_14) k_13 ⟨hm16, io, hi17⟩
    ·omega
    refine mW ?_;refine fN ?_;refine Av rfl (fun g9 => ?_) (fun g9 => ?_);rotate_left
    ·refine Cz ?_;refine Z52 ?_;refine Qe ?_;exact Ez n_9 (i_8 + 1) ⟨by omega, (((((eb.pos i7).neg j0).neg f9).f j5).ok1 (io.neg g9)), z4⟩ (Nat.lt_succ_self _) se (List.Perm.refl _)
    refine Qf ?_;refine AU4 ?_;refine jQ ?_;refine Gg ?_;refine Be (Cj (n := s.free.length) runUnderlying22 sizeOf3 k_13 Xu (gD z3) Km) (k := ?_);refine Be (Cb isAgg3 k_13 0 Xu (gD z3)) (k := ?_);refine jQ ?_;refine Gg ?_;refine AS9 ?_;refine Be Gy (k := ?_);refine jP ?_;refine Av rfl (fun i0 => ?_) (fun i0 => ?_);rotate_left
    ·refine Bt ?_;refine Qe ?_;exact Ez n_14 (k_13 + 1) ⟨by omega, ((io.pos g9).neg i0), z4⟩ (Nat.lt_succ_self _) se (List.Perm.refl _)
    refine Z2 ?_;refine Sr ?_;refine vS ?_;refine Wv ?_;refine Ad results68 z1 (fun w1 hw1 => ?_);exact ⟨(rq (((((hF.neg a9).neg b9).neg c7).ok2 (aa.neg c8)).er1 (((((eb.pos i7).neg j0).neg f9).f j5).er1 ((io.pos g9).pos i0)))), hw1.ext_out⟩

theorem jG (w : World) {a_a : Option Addr} {a_c : Nat} {b_a : Option Addr} {b_c : Nat} {a : List Int} {b : List Int} (h_a : Sl w eI 1 a_a a) (n_a : a.length ≤ 1000) (h_b : Sl w eI 1 b_a b) (n_b : b.length ≤ 1000) : Jc Tryz.prog 81 [(vs a_a a.length a_c), (vs b_a b.length b_c)] w (Value.bool (aP a b)) := by
 have hF := Is.refl (aP a b);refine enter func81 ntmps81 (h := ?_);refine Sb ?_;refine qN ?_;refine Cr ?_;refine qN ?_;refine Vl ?_;refine Av rfl (fun a9 => ?_) (fun a9 => ?_)
 ·refine Bp ?_;refine Qc ?_;refine Ad results81 z1 (fun w1 hw1 => ?_);exact ⟨(rq (hF.pos a9)), hw1.ext_out⟩
 refine Kx ?_;refine Sc ?_;refine Fi (σ1 := Nat) (σ2 := Nat) (fun n_2 i_1 => []) (fun n_2 i_1 => [(0, (vs a_a a.length a_c)), (1, (vs b_a b.length b_c)), (4, (Value.bool false)), (5, (vi ((i_1 : Nat) : Int)))]) (fun n_2 i_1 => a.length - i_1 < n_2 ∧ Is (Ng a b (a.length + 1) 0) (Ng a b n_2 i_1) ∧ i_1 ≤ a.length) (fun n_2 i_1 => n_2) (a.length + 1) 0 ?_ se (List.Perm.refl _) ?_
 ·exact ⟨Nat.lt_succ_self _, Is.refl _, Na⟩
 ·rintro (_ | n_2) i_1 ⟨hm4, j4, hi5⟩
  ·omega
  refine mW ?_;refine qN ?_;refine fN ?_;refine Av rfl (fun b9 => ?_) (fun b9 => ?_);rotate_left
  ·refine Cz ?_;refine Qd ?_;refine Ad results81 z1 (fun w1 hw1 => ?_);exact ⟨(rq ((hF.neg a9).ok1 (j4.neg b9))), hw1.ext_out⟩
  refine Qf ?_;refine AG5 ?_;refine Zv ?_;refine Be (Cj (n := a.length) runUnderlying22 sizeOf3 i_1 (Bv.of_base h_a) (gD z3) Km) (k := ?_);refine Be (Cb isAgg3 i_1 0 (Bv.of_base h_a) (gD z3)) (k := ?_);refine Zv ?_;refine Be (Cj (n := b.length) runUnderlying22 sizeOf3 i_1 (Bv.of_base h_b) (gD z3) Km) (k := ?_);refine Be (Cb isAgg3 i_1 0 (Bv.of_base h_b) (gD z3)) (k := ?_);refine Be Mj (k := ?_);refine jP ?_;refine Av rfl (fun c7 => ?_) (fun c7 => ?_);rotate_left
  ·refine Bt ?_;refine Qe ?_;exact Ez n_2 (i_1 + 1) ⟨by omega, ((j4.pos b9).neg c7), z4⟩ (Nat.lt_succ_self _) se (List.Perm.refl _)
  refine dE ?_;refine Ad results81 z1 (fun w1 hw1 => ?_);exact ⟨(rq ((hF.neg a9).er1 ((j4.pos b9).pos c7))), hw1.ext_out⟩

theorem yG (w : World) {a_gens_a : Option Addr} {a_gens_c : Nat} {a_used_a : Option Addr} {a_used_c : Nat} {a_free_a : Option Addr} {a_free_c : Nat} {b_gens_a : Option Addr} {b_gens_c : Nat} {b_used_a : Option Addr} {b_used_c : Nat} {b_free_a : Option Addr} {b_free_c : Nat} {a : Slots} {b : Slots} (h_a_gens : Sl w eI 1 a_gens_a a.gens) (n_a_gens : a.gens.length ≤ 1000) (h_a_used : Sl w eB 1 a_used_a a.used) (n_a_used : a.used.length ≤ 1000) (h_a_free : Sl w eI 1 a_free_a a.free) (n_a_free : a.free.length ≤ 1000) (h_b_gens : Sl w eI 1 b_gens_a b.gens) (n_b_gens : b.gens.length ≤ 1000) (h_b_used : Sl w eB 1 b_used_a b.used) (n_b_used : b.used.length ≤ 1000) (h_b_free : Sl w eI 1 b_free_a b.free) (n_b_free : b.free.length ≤ 1000) : Jc Tryz.prog 45 [(Value.agg [(vs a_gens_a a.gens.length a_gens_c), (vs a_used_a a.used.length a_used_c), (vs a_free_a a.free.length a_free_c)].toArray), (Value.agg [(vs b_gens_a b.gens.length b_gens_c), (vs b_used_a b.used.length b_used_c), (vs b_free_a b.free.length b_free_c)].toArray)] w (Value.bool (Xm a b)) := by
 have hF := Is.refl (Xm a b);refine enter func45 ntmps45 (h := ?_);refine Z2 ?_;refine Aj Af Jq (k := fun r1 p4 => ?_);refine Aj Af Jq (k := fun r2 bv => ?_);refine gF ?_;refine O2 ?_;refine O2 ?_;refine Fu (Ai call81) (fun w1 hw1 => jG w1 (a := a.gens) (b := b.gens) (h_a := (Bv.of_base h_a_gens) w1 hw1) (n_a := z7) (h_b := (Bv.of_base h_b_gens) w1 hw1) (n_b := z7)) (k := ?_);refine mP ?_;refine Dq 12 rfl (fun a9 => ?_) (fun a9 => ?_)
 ·refine Ag 6 rfl ?_;refine Sn ?_;refine Ag 7 rfl ?_;refine Rz ?_;refine Ad results45 z1 (fun w1 hw1 => ?_);exact ⟨(rq (hF.t a9)), hw1.ext_out⟩
 refine Ay (Al Jn) (k := ?_);refine Ay lR (k := ?_);refine Ay (Al Jn) (k := ?_);refine Ay lR (k := ?_);refine Ku (Ai call81) (fun w1 hw1 => jG w1 (a := a.free) (b := b.free) (h_a := (Bv.of_base h_a_free) w1 hw1) (n_a := z7) (h_b := (Bv.of_base h_b_free) w1 hw1) (n_b := z7)) (k := ?_);refine Ay Ml (k := ?_);refine Pz ?_;refine Dq 20 rfl (fun b9 => ?_) (fun b9 => ?_)
 ·refine Ag 7 rfl ?_;refine Rz ?_;refine Ad results45 z1 (fun w1 hw1 => ?_);exact ⟨(rq ((hF.f a9).t b9)), hw1.ext_out⟩
 refine vK ?_;refine vK ?_;refine Ay Mj (k := ?_);refine Rt ?_;refine Av rfl (fun c7 => ?_) (fun c7 => ?_)
 ·refine Bp ?_;refine Qc ?_;refine Ad results45 z1 (fun w1 hw1 => ?_);exact ⟨(rq (((hF.f a9).f b9).pos c7)), hw1.ext_out⟩
 refine Kx ?_;refine Sc ?_;refine Fi (σ1 := Nat) (σ2 := Nat) (fun n_2 i_1 => ((r2, oc [(vs b_gens_a b.gens.length b_gens_c), (vs b_used_a b.used.length b_used_c), (vs b_free_a b.free.length b_free_c)] 25) :: ((r1, oc [(vs a_gens_a a.gens.length a_gens_c), (vs a_used_a a.used.length a_used_c), (vs a_free_a a.free.length a_free_c)] 25) :: []))) (fun n_2 i_1 => [(2, (Value.pointer (some ⟨r1, 0, none⟩))), (3, (Value.pointer (some ⟨r2, 0, none⟩))), (4, (Value.bool false)), (5, (vi ((i_1 : Nat) : Int)))]) (fun n_2 i_1 => a.used.length - i_1 < n_2 ∧ Is (Nh a b (a.used.length + 1) 0) (Nh a b n_2 i_1) ∧ i_1 ≤ a.used.length) (fun n_2 i_1 => n_2) (a.used.length + 1) 0 ?_ se (List.Perm.refl _) ?_
 ·exact ⟨Nat.lt_succ_self _, Is.refl _, Na⟩
 ·rintro (_ | n_2) i_1 ⟨hm4, j4, hi5⟩
  ·omega
  refine Fj ?_;refine Z5 ?_;refine A0 ?_;refine fN ?_;refine Av rfl (fun c8 => ?_) (fun c8 => ?_);rotate_left
  ·refine Cz ?_;refine Qd ?_;refine Ad results45 z1 (fun w1 hw1 => ?_);exact ⟨(rq ((((hF.f a9).f b9).neg c7).ok1 (j4.neg c8))), hw1.ext_out⟩
  refine Qf ?_;refine AU4 ?_;refine mJ ?_;refine Gg ?_;refine Be (Cj (n := a.used.length) runUnderlying23 sizeOf4 i_1 (Bv.of_base h_a_used) (gD z3) Km) (k := ?_);refine Be (Cb isAgg4 i_1 0 (Bv.of_base h_a_used) (gD z3)) (k := ?_);refine mJ ?_;refine Gg ?_;refine Be (Cj (n := b.used.length) runUnderlying23 sizeOf4 i_1 (Bv.of_base h_b_used) (gD z3) Km) (k := ?_);refine Be (Cb isAgg4 i_1 0 (Bv.of_base h_b_used) (gD z3)) (k := ?_);refine Be (AK3 runUnderlying4) (k := ?_);refine jP ?_;refine Cx rfl (fun d5 => ?_) (fun d5 => ?_);rotate_left
  ·refine Bt ?_;refine Qe ?_;exact Ez n_2 (i_1 + 1) ⟨by omega, ((j4.pos c8).f d5), z4⟩ (Nat.lt_succ_self _) se (List.Perm.refl _)
  refine dE ?_;refine Ad results45 z1 (fun w1 hw1 => ?_);exact ⟨(rq ((((hF.f a9).f b9).neg c7).er1 ((j4.pos c8).t d5))), hw1.ext_out⟩

theorem L6 (w : World) {s_gens_a : Option Addr} {s_gens_c : Nat} {s_used_a : Option Addr} {s_used_c : Nat} {s_free_a : Option Addr} {s_free_c : Nat} {s : Slots} (h_s_gens : Sl w eI 1 s_gens_a s.gens) (n_s_gens : s.gens.length ≤ 1000) (h_s_used : Sl w eB 1 s_used_a s.used) (n_s_used : s.used.length ≤ 1000) (h_s_free : Sl w eI 1 s_free_a s.free) (n_s_free : s.free.length ≤ 1000) : Calls Tryz.prog 125 (List.toArray [(Value.agg [(vs s_gens_a s.gens.length s_gens_c), (vs s_used_a s.used.length s_used_c), (vs s_free_a s.free.length s_free_c)].toArray)]) w fun e w2 => ∃ a1 : Option Addr, ∃ c1 : Nat, ∃ a2 : Option Addr, ∃ c2 : Nat, ∃ a3 : Option Addr, ∃ c3 : Nat, ∃ B1 : An, ∃ B2 : An, ∃ B3 : An, e = .returned (Value.agg [(vs a1 ((eZ s).gens.length) c1), (vs a2 ((eZ s).used.length) c2), (vs a3 ((eZ s).free.length) c3)].toArray) ∧ Dj w w2 (B1 ++ (B2 ++ B3)) ∧ Bg eI 1 3 a1 c1 B1 (eZ s).gens ∧ Bg eB 1 4 a2 c2 B2 (eZ s).used ∧ Bg eI 1 3 a3 c3 B3 (eZ s).free := by
 have hF := Is.refl (eZ s);refine enter func125 ntmps125 (h := ?_);refine Z2 ?_;refine Aj Af Jq (k := fun r1 p4 => ?_);refine Aj Af jN (k := fun r2 bv => ?_);refine Jl ?_;refine D1 (σ1 := List Int) (σ2 := Option Addr) (σ3 := Nat) (σ4 := An) (σ5 := List Bool) (σ6 := Option Addr) (σ7 := Nat) (σ8 := An) (σ9 := List Int) (σ10 := Option Addr) (σ11 := Nat) (σ12 := An) (fun x_1 da db bw x_2 o8 o9 m6 x_3 cn co ar => (ar ++ (m6 ++ (bw ++ ((r2, oc [(vs da x_1.length db), (vs o8 x_2.length o9), (vs cn x_3.length co)] 25) :: ((r1, oc [(vs s_gens_a s.gens.length s_gens_c), (vs s_used_a s.used.length s_used_c), (vs s_free_a s.free.length s_free_c)] 25) :: [])))))) (fun x_1 da db bw x_2 o8 o9 m6 x_3 cn co ar => [(2, (Value.pointer (some ⟨r2, 0, none⟩)))]) (fun x_1 da db bw x_2 o8 o9 m6 x_3 cn co ar => Is (Is.xr3 hF) (x_1, x_2, x_3) ∧ Bg eI 1 3 da db bw x_1 ∧ Bg eB 1 4 o8 o9 m6 x_2 ∧ Bg eI 1 3 cn co ar x_3) ?_ ?_
 ·skip;refine Vy (V := []) Cy 13 z5 ?_;refine Dn 1 rfl z5 (Al Ll) (k := ?_);refine Dn 2 rfl z5 lR (k := ?_);refine Dn 5 rfl z5 (Al Rh) (k := ?_);refine Dn 6 rfl z5 (Ca isAgg23) (k := ?_);refine Dn 9 rfl z5 (Al Jn) (k := ?_);refine Dn 10 rfl z5 lR (k := ?_);refine Bl [0, 4, 8] z5 rfl (List.forall_mem_cons.2 ⟨?_, (List.forall_mem_cons.2 ⟨?_, (List.forall_mem_cons.2 ⟨?_, nofun⟩)⟩)⟩)
  ·skip;refine Fw rfl Af lO (k := fun rx kq => ?_);refine Bl [3, 4, 8] z5 rfl (List.forall_mem_cons.2 ⟨?_, (List.forall_mem_cons.2 ⟨?_, (List.forall_mem_cons.2 ⟨?_, nofun⟩)⟩)⟩)
   ·skip;refine Br rfl Dp underlying22 Bb Sp ⟨by omega, by omega⟩ (m := s.gens.length) (k := fun ax81 cx81 k8 i4 => ?_);refine Bl [4, 8] z5 rfl (List.forall_mem_cons.2 ⟨?_, (List.forall_mem_cons.2 ⟨?_, nofun⟩)⟩)
    ·skip;refine Fw rfl Af N1 (k := fun ib cu => ?_);refine Bl [7, 8] z5 rfl (List.forall_mem_cons.2 ⟨?_, (List.forall_mem_cons.2 ⟨?_, nofun⟩)⟩)
     ·skip;refine Br rfl Ps underlying23 Ds Sq ⟨by omega, by omega⟩ (m := s.used.length) (k := fun ax161 cx161 j7 i6 => ?_);refine Bl [8] z5 rfl (List.forall_mem_cons.2 ⟨?_, nofun⟩)
      ·skip;refine Fw rfl Af lO (k := fun ed bd => ?_);refine Bl [11] z5 rfl (List.forall_mem_cons.2 ⟨?_, nofun⟩)
       ·skip;refine Br rfl Dp underlying22 Bb Xu ⟨by omega, by omega⟩ (m := s.free.length) (k := fun ax241 cx241 k7 i9 => ?_);refine Ws ?_;refine Ce _ (((((qc (qa (qc (qa (qc (qa (qa q0))))))).trans (qa (qc (qa (qc (qa (qc (qa q0)))))))).trans (qb (qb (qd (qb (qd (qb q0))))))).trans (qd (qb (qb (qd (qb q0)))))).trans (qd (qd (qb (qb q0))))) ?_;refine wB ?_;exact Fp s.gens ax81 cx81 k8 s.used ax161 cx161 j7 s.free ax241 cx241 k7 ⟨(Is.refl (Is.xr3 hF)), i4, i6, i9⟩ se (List.Perm.refl _)
     ·skip;refine Fw rfl Af lO (k := fun ed bd => ?_);refine Bl [7] z5 rfl (List.forall_mem_cons.2 ⟨?_, nofun⟩)
      ·skip;refine Br rfl Ps underlying23 Ds Sq ⟨by omega, by omega⟩ (m := s.used.length) (k := fun ax161 cx161 j7 i6 => ?_);refine Bl [11] z5 rfl (List.forall_mem_cons.2 ⟨?_, nofun⟩)
       ·skip;refine Br rfl Dp underlying22 Bb Xu ⟨by omega, by omega⟩ (m := s.free.length) (k := fun ax241 cx241 k7 i9 => ?_);refine Ws ?_;refine AR4 ?_;exact Fp s.gens ax81 cx81 k8 s.used ax161 cx161 j7 s.free ax241 cx241 k7 ⟨(Is.refl (Is.xr3 hF)), i4, i6, i9⟩ se (List.Perm.refl _)
    ·skip;refine Fw rfl Af lO (k := fun ed bd => ?_);refine Bl [4] z5 rfl (List.forall_mem_cons.2 ⟨?_, nofun⟩)
     ·skip;refine Fw rfl Af N1 (k := fun ib cu => ?_);refine Bl [7] z5 rfl (List.forall_mem_cons.2 ⟨?_, nofun⟩)
      ·skip;refine Br rfl Ps underlying23 Ds Sq ⟨by omega, by omega⟩ (m := s.used.length) (k := fun ax161 cx161 j7 i6 => ?_);refine Bl [11] z5 rfl (List.forall_mem_cons.2 ⟨?_, nofun⟩)
       ·skip;refine Br rfl Dp underlying22 Bb Xu ⟨by omega, by omega⟩ (m := s.free.length) (k := fun ax241 cx241 k7 i9 => ?_);refine Ws ?_;refine AR4 ?_;exact Fp s.gens ax81 cx81 k8 s.used ax161 cx161 j7 s.free ax241 cx241 k7 ⟨(Is.refl (Is.xr3 hF)), i4, i6, i9⟩ se (List.Perm.refl _)
   ·skip;refine Fw rfl Af N1 (k := fun ib cu => ?_);refine Bl [3, 8] z5 rfl (List.forall_mem_cons.2 ⟨?_, (List.forall_mem_cons.2 ⟨?_, nofun⟩)⟩)
    ·skip;refine Br rfl Dp underlying22 Bb Sp ⟨by omega, by omega⟩ (m := s.gens.length) (k := fun ax81 cx81 k8 i4 => ?_);refine Bl [7, 8] z5 rfl (List.forall_mem_cons.2 ⟨?_, (List.forall_mem_cons.2 ⟨?_, nofun⟩)⟩)
     ·skip;refine Br rfl Ps underlying23 Ds Sq ⟨by omega, by omega⟩ (m := s.used.length) (k := fun ax161 cx161 j7 i6 => ?_);refine Bl [8] z5 rfl (List.forall_mem_cons.2 ⟨?_, nofun⟩)
      ·skip;refine Fw rfl Af lO (k := fun ed bd => ?_);refine Bl [11] z5 rfl (List.forall_mem_cons.2 ⟨?_, nofun⟩)
       ·skip;refine Br rfl Dp underlying22 Bb Xu ⟨by omega, by omega⟩ (m := s.free.length) (k := fun ax241 cx241 k7 i9 => ?_);refine Ws ?_;refine AR5 ?_;exact Fp s.gens ax81 cx81 k8 s.used ax161 cx161 j7 s.free ax241 cx241 k7 ⟨(Is.refl (Is.xr3 hF)), i4, i6, i9⟩ se (List.Perm.refl _)
     ·skip;refine Fw rfl Af lO (k := fun ed bd => ?_);refine Bl [7] z5 rfl (List.forall_mem_cons.2 ⟨?_, nofun⟩)
      ·skip;refine Br rfl Ps underlying23 Ds Sq ⟨by omega, by omega⟩ (m := s.used.length) (k := fun ax161 cx161 j7 i6 => ?_);refine Bl [11] z5 rfl (List.forall_mem_cons.2 ⟨?_, nofun⟩)
       ·skip;refine Br rfl Dp underlying22 Bb Xu ⟨by omega, by omega⟩ (m := s.free.length) (k := fun ax241 cx241 k7 i9 => ?_);refine Ws ?_;refine Z88 ?_;exact Fp s.gens ax81 cx81 k8 s.used ax161 cx161 j7 s.free ax241 cx241 k7 ⟨(Is.refl (Is.xr3 hF)), i4, i6, i9⟩ se (List.Perm.refl _)
    ·skip;refine Fw rfl Af lO (k := fun ed bd => ?_);refine Bl [3] z5 rfl (List.forall_mem_cons.2 ⟨?_, nofun⟩)
     ·skip;refine Br rfl Dp underlying22 Bb Sp ⟨by omega, by omega⟩ (m := s.gens.length) (k := fun ax81 cx81 k8 i4 => ?_);refine Bl [7] z5 rfl (List.forall_mem_cons.2 ⟨?_, nofun⟩)
      ·skip;refine Br rfl Ps underlying23 Ds Sq ⟨by omega, by omega⟩ (m := s.used.length) (k := fun ax161 cx161 j7 i6 => ?_);refine Bl [11] z5 rfl (List.forall_mem_cons.2 ⟨?_, nofun⟩)
       ·skip;refine Br rfl Dp underlying22 Bb Xu ⟨by omega, by omega⟩ (m := s.free.length) (k := fun ax241 cx241 k7 i9 => ?_);refine Ws ?_;refine Z46 ?_;exact Fp s.gens ax81 cx81 k8 s.used ax161 cx161 j7 s.free ax241 cx241 k7 ⟨(Is.refl (Is.xr3 hF)), i4, i6, i9⟩ se (List.Perm.refl _)
   ·skip;refine Fw rfl Af lO (k := fun ed bd => ?_);refine Bl [3, 4] z5 rfl (List.forall_mem_cons.2 ⟨?_, (List.forall_mem_cons.2 ⟨?_, nofun⟩)⟩)
    ·skip;refine Br rfl Dp underlying22 Bb Sp ⟨by omega, by omega⟩ (m := s.gens.length) (k := fun ax81 cx81 k8 i4 => ?_);refine Bl [4] z5 rfl (List.forall_mem_cons.2 ⟨?_, nofun⟩)
     ·skip;refine Fw rfl Af N1 (k := fun ib cu => ?_);refine Bl [7] z5 rfl (List.forall_mem_cons.2 ⟨?_, nofun⟩)
      ·skip;refine Br rfl Ps underlying23 Ds Sq ⟨by omega, by omega⟩ (m := s.used.length) (k := fun ax161 cx161 j7 i6 => ?_);refine Bl [11] z5 rfl (List.forall_mem_cons.2 ⟨?_, nofun⟩)
       ·skip;refine Br rfl Dp underlying22 Bb Xu ⟨by omega, by omega⟩ (m := s.free.length) (k := fun ax241 cx241 k7 i9 => ?_);refine Ws ?_;refine Z88 ?_;exact Fp s.gens ax81 cx81 k8 s.used ax161 cx161 j7 s.free ax241 cx241 k7 ⟨(Is.refl (Is.xr3 hF)), i4, i6, i9⟩ se (List.Perm.refl _)
    ·skip;refine Fw rfl Af N1 (k := fun ib cu => ?_);refine Bl [3] z5 rfl (List.forall_mem_cons.2 ⟨?_, nofun⟩)
     ·skip;refine Br rfl Dp underlying22 Bb Sp ⟨by omega, by omega⟩ (m := s.gens.length) (k := fun ax81 cx81 k8 i4 => ?_);refine Bl [7] z5 rfl (List.forall_mem_cons.2 ⟨?_, nofun⟩)
      ·skip;refine Br rfl Ps underlying23 Ds Sq ⟨by omega, by omega⟩ (m := s.used.length) (k := fun ax161 cx161 j7 i6 => ?_);refine Bl [11] z5 rfl (List.forall_mem_cons.2 ⟨?_, nofun⟩)
       ·skip;refine Br rfl Dp underlying22 Bb Xu ⟨by omega, by omega⟩ (m := s.free.length) (k := fun ax241 cx241 k7 i9 => ?_);refine Ws ?_;refine Z46 ?_;exact Fp s.gens ax81 cx81 k8 s.used ax161 cx161 j7 s.free ax241 cx241 k7 ⟨(Is.refl (Is.xr3 hF)), i4, i6, i9⟩ se (List.Perm.refl _)
  ·skip;refine Fw rfl Af N1 (k := fun ib cu => ?_);refine Bl [0, 8] z5 rfl (List.forall_mem_cons.2 ⟨?_, (List.forall_mem_cons.2 ⟨?_, nofun⟩)⟩)
   ·skip;refine Fw rfl Af lO (k := fun rx kq => ?_);refine Bl [3, 8] z5 rfl (List.forall_mem_cons.2 ⟨?_, (List.forall_mem_cons.2 ⟨?_, nofun⟩)⟩)
    ·skip;refine Br rfl Dp underlying22 Bb Sp ⟨by omega, by omega⟩ (m := s.gens.length) (k := fun ax81 cx81 k8 i4 => ?_);refine Bl [7, 8] z5 rfl (List.forall_mem_cons.2 ⟨?_, (List.forall_mem_cons.2 ⟨?_, nofun⟩)⟩)
     ·skip;refine Br rfl Ps underlying23 Ds Sq ⟨by omega, by omega⟩ (m := s.used.length) (k := fun ax161 cx161 j7 i6 => ?_);refine Bl [8] z5 rfl (List.forall_mem_cons.2 ⟨?_, nofun⟩)
      ·skip;refine Fw rfl Af lO (k := fun ed bd => ?_);refine Bl [11] z5 rfl (List.forall_mem_cons.2 ⟨?_, nofun⟩)
       ·skip;refine Br rfl Dp underlying22 Bb Xu ⟨by omega, by omega⟩ (m := s.free.length) (k := fun ax241 cx241 k7 i9 => ?_);refine Ws ?_;refine AR5 ?_;exact Fp s.gens ax81 cx81 k8 s.used ax161 cx161 j7 s.free ax241 cx241 k7 ⟨(Is.refl (Is.xr3 hF)), i4, i6, i9⟩ se (List.Perm.refl _)
     ·skip;refine Fw rfl Af lO (k := fun ed bd => ?_);refine Bl [7] z5 rfl (List.forall_mem_cons.2 ⟨?_, nofun⟩)
      ·skip;refine Br rfl Ps underlying23 Ds Sq ⟨by omega, by omega⟩ (m := s.used.length) (k := fun ax161 cx161 j7 i6 => ?_);refine Bl [11] z5 rfl (List.forall_mem_cons.2 ⟨?_, nofun⟩)
       ·skip;refine Br rfl Dp underlying22 Bb Xu ⟨by omega, by omega⟩ (m := s.free.length) (k := fun ax241 cx241 k7 i9 => ?_);refine Ws ?_;refine Z88 ?_;exact Fp s.gens ax81 cx81 k8 s.used ax161 cx161 j7 s.free ax241 cx241 k7 ⟨(Is.refl (Is.xr3 hF)), i4, i6, i9⟩ se (List.Perm.refl _)
    ·skip;refine Fw rfl Af lO (k := fun ed bd => ?_);refine Bl [3] z5 rfl (List.forall_mem_cons.2 ⟨?_, nofun⟩)
     ·skip;refine Br rfl Dp underlying22 Bb Sp ⟨by omega, by omega⟩ (m := s.gens.length) (k := fun ax81 cx81 k8 i4 => ?_);refine Bl [7] z5 rfl (List.forall_mem_cons.2 ⟨?_, nofun⟩)
      ·skip;refine Br rfl Ps underlying23 Ds Sq ⟨by omega, by omega⟩ (m := s.used.length) (k := fun ax161 cx161 j7 i6 => ?_);refine Bl [11] z5 rfl (List.forall_mem_cons.2 ⟨?_, nofun⟩)
       ·skip;refine Br rfl Dp underlying22 Bb Xu ⟨by omega, by omega⟩ (m := s.free.length) (k := fun ax241 cx241 k7 i9 => ?_);refine Ws ?_;refine Z46 ?_;exact Fp s.gens ax81 cx81 k8 s.used ax161 cx161 j7 s.free ax241 cx241 k7 ⟨(Is.refl (Is.xr3 hF)), i4, i6, i9⟩ se (List.Perm.refl _)
   ·skip;refine Fw rfl Af lO (k := fun ed bd => ?_);refine Bl [0] z5 rfl (List.forall_mem_cons.2 ⟨?_, nofun⟩)
    ·skip;refine Fw rfl Af lO (k := fun rx kq => ?_);refine Bl [3] z5 rfl (List.forall_mem_cons.2 ⟨?_, nofun⟩)
     ·skip;refine Br rfl Dp underlying22 Bb Sp ⟨by omega, by omega⟩ (m := s.gens.length) (k := fun ax81 cx81 k8 i4 => ?_);refine Bl [7] z5 rfl (List.forall_mem_cons.2 ⟨?_, nofun⟩)
      ·skip;refine Br rfl Ps underlying23 Ds Sq ⟨by omega, by omega⟩ (m := s.used.length) (k := fun ax161 cx161 j7 i6 => ?_);refine Bl [11] z5 rfl (List.forall_mem_cons.2 ⟨?_, nofun⟩)
       ·skip;refine Br rfl Dp underlying22 Bb Xu ⟨by omega, by omega⟩ (m := s.free.length) (k := fun ax241 cx241 k7 i9 => ?_);refine Ws ?_;refine Z46 ?_;exact Fp s.gens ax81 cx81 k8 s.used ax161 cx161 j7 s.free ax241 cx241 k7 ⟨(Is.refl (Is.xr3 hF)), i4, i6, i9⟩ se (List.Perm.refl _)
  ·skip;refine Fw rfl Af lO (k := fun ed bd => ?_);refine Bl [0, 4] z5 rfl (List.forall_mem_cons.2 ⟨?_, (List.forall_mem_cons.2 ⟨?_, nofun⟩)⟩)
   ·skip;refine Fw rfl Af lO (k := fun rx kq => ?_);refine Bl [3, 4] z5 rfl (List.forall_mem_cons.2 ⟨?_, (List.forall_mem_cons.2 ⟨?_, nofun⟩)⟩)
    ·skip;refine Br rfl Dp underlying22 Bb Sp ⟨by omega, by omega⟩ (m := s.gens.length) (k := fun ax81 cx81 k8 i4 => ?_);refine Bl [4] z5 rfl (List.forall_mem_cons.2 ⟨?_, nofun⟩)
     ·skip;refine Fw rfl Af N1 (k := fun ib cu => ?_);refine Bl [7] z5 rfl (List.forall_mem_cons.2 ⟨?_, nofun⟩)
      ·skip;refine Br rfl Ps underlying23 Ds Sq ⟨by omega, by omega⟩ (m := s.used.length) (k := fun ax161 cx161 j7 i6 => ?_);refine Bl [11] z5 rfl (List.forall_mem_cons.2 ⟨?_, nofun⟩)
       ·skip;refine Br rfl Dp underlying22 Bb Xu ⟨by omega, by omega⟩ (m := s.free.length) (k := fun ax241 cx241 k7 i9 => ?_);refine Ws ?_;refine Z88 ?_;exact Fp s.gens ax81 cx81 k8 s.used ax161 cx161 j7 s.free ax241 cx241 k7 ⟨(Is.refl (Is.xr3 hF)), i4, i6, i9⟩ se (List.Perm.refl _)
    ·skip;refine Fw rfl Af N1 (k := fun ib cu => ?_);refine Bl [3] z5 rfl (List.forall_mem_cons.2 ⟨?_, nofun⟩)
     ·skip;refine Br rfl Dp underlying22 Bb Sp ⟨by omega, by omega⟩ (m := s.gens.length) (k := fun ax81 cx81 k8 i4 => ?_);refine Bl [7] z5 rfl (List.forall_mem_cons.2 ⟨?_, nofun⟩)
      ·skip;refine Br rfl Ps underlying23 Ds Sq ⟨by omega, by omega⟩ (m := s.used.length) (k := fun ax161 cx161 j7 i6 => ?_);refine Bl [11] z5 rfl (List.forall_mem_cons.2 ⟨?_, nofun⟩)
       ·skip;refine Br rfl Dp underlying22 Bb Xu ⟨by omega, by omega⟩ (m := s.free.length) (k := fun ax241 cx241 k7 i9 => ?_);refine Ws ?_;refine Z46 ?_;exact Fp s.gens ax81 cx81 k8 s.used ax161 cx161 j7 s.free ax241 cx241 k7 ⟨(Is.refl (Is.xr3 hF)), i4, i6, i9⟩ se (List.Perm.refl _)
   ·skip;refine Fw rfl Af N1 (k := fun ib cu => ?_);refine Bl [0] z5 rfl (List.forall_mem_cons.2 ⟨?_, nofun⟩)
    ·skip;refine Fw rfl Af lO (k := fun rx kq => ?_);refine Bl [3] z5 rfl (List.forall_mem_cons.2 ⟨?_, nofun⟩)
     ·skip;refine Br rfl Dp underlying22 Bb Sp ⟨by omega, by omega⟩ (m := s.gens.length) (k := fun ax81 cx81 k8 i4 => ?_);refine Bl [7] z5 rfl (List.forall_mem_cons.2 ⟨?_, nofun⟩)
      ·skip;refine Br rfl Ps underlying23 Ds Sq ⟨by omega, by omega⟩ (m := s.used.length) (k := fun ax161 cx161 j7 i6 => ?_);refine Bl [11] z5 rfl (List.forall_mem_cons.2 ⟨?_, nofun⟩)
       ·skip;refine Br rfl Dp underlying22 Bb Xu ⟨by omega, by omega⟩ (m := s.free.length) (k := fun ax241 cx241 k7 i9 => ?_);refine Ws ?_;refine Z46 ?_;exact Fp s.gens ax81 cx81 k8 s.used ax161 cx161 j7 s.free ax241 cx241 k7 ⟨(Is.refl (Is.xr3 hF)), i4, i6, i9⟩ se (List.Perm.refl _)
 rintro x_1 da db bw x_2 o8 o9 m6 x_3 cn co ar ⟨hJ4, xo, cx, fu⟩;refine Hq ?_;refine tA ?_;refine Ad results125 (Dd.agg isAgg25 sizeOf25 rfl me rfl Dd.nil) (fun w1 hw1 => ?_);exact ⟨da, db, o8, o9, cn, co, bw, m6, ar, (rq (hF.rn3 hJ4)), (Bd (L := (bw ++ (m6 ++ ar))) (hw1.perm ((q0.trans (qd q0)).trans (qd (qd q0)))) (nA (nA rfl)).symm), (by rw [(hF.rn3 hJ4).eq]; exact xo), (by rw [(hF.rn3 hJ4).eq]; exact cx), (by rw [(hF.rn3 hJ4).eq]; exact fu)⟩

theorem yH (w : World) {s_gens_a : Option Addr} {s_gens_c : Nat} {s_used_a : Option Addr} {s_used_c : Nat} {s_free_a : Option Addr} {s_free_c : Nat} {s : Slots} (h_s_gens : Sl w eI 1 s_gens_a s.gens) (n_s_gens : s.gens.length ≤ 1000) (h_s_used : Sl w eB 1 s_used_a s.used) (n_s_used : s.used.length ≤ 1000) (h_s_free : Sl w eI 1 s_free_a s.free) (n_s_free : s.free.length ≤ 1000) : Calls Tryz.prog 125 (List.toArray [(Value.agg [(vs s_gens_a s.gens.length s_gens_c), (vs s_used_a s.used.length s_used_c), (vs s_free_a s.free.length s_free_c)].toArray)]) w fun e w2 => ∃ a1 : Option Addr, ∃ c1 : Nat, ∃ a2 : Option Addr, ∃ c2 : Nat, ∃ a3 : Option Addr, ∃ c3 : Nat, ∃ B1 : An, ∃ B2 : An, ∃ B3 : An, e = .returned (Value.agg [(vs a1 s.gens.length c1), (vs a2 s.used.length c2), (vs a3 s.free.length c3)].toArray) ∧ Dj w w2 (B1 ++ (B2 ++ B3)) ∧ Bg eI 1 3 a1 c1 B1 s.gens ∧ Bg eB 1 4 a2 c2 B2 s.used ∧ Bg eI 1 3 a3 c3 B3 s.free :=
 L6 w h_s_gens n_s_gens h_s_used n_s_used h_s_free n_s_free

theorem sE (w : World) {s_gens_a : Option Addr} {s_gens_c : Nat} {s_used_a : Option Addr} {s_used_c : Nat} {s_free_a : Option Addr} {s_free_c : Nat} {s : Slots} {h : Handle} (h_s_gens : Sl w eI 1 s_gens_a s.gens) (n_s_gens : s.gens.length ≤ 1000) (h_s_used : Sl w eB 1 s_used_a s.used) (n_s_used : s.used.length ≤ 1000) (h_s_free : Sl w eI 1 s_free_a s.free) (n_s_free : s.free.length ≤ 1000) : Jc Tryz.prog 124 [(Value.agg [(vs s_gens_a s.gens.length s_gens_c), (vs s_used_a s.used.length s_used_c), (vs s_free_a s.free.length s_free_c)].toArray), (Value.agg [(vi h.slot), (vi h.gen)].toArray)] w (Value.bool (Rl s h)) := by
 have hF := Is.refl (Rl s h);refine enter func124 ntmps124 (h := ?_);refine Z2 ?_;refine Aj Af Jq (k := fun r1 p4 => ?_);refine Aj Af pN (k := fun r2 bv => ?_);refine Un ?_;refine Fg Cy 35 [(true, 0), (false, 1), (true, 2), (true, 3), (true, 4), (true, 5), (true, 6), (true, 7), (true, 8), (true, 9), (true, 10), (true, 11), (true, 12), (true, 13), (true, 14), (true, 15), (true, 16), (true, 17), (true, 18), (true, 19), (true, 20), (true, 21), (true, 22), (true, 23), (true, 24), (true, 25), (true, 26), (true, 27), (true, 28), (true, 29), (true, 30), (true, 31), (true, 32), (true, 33), (true, 34)] z5 ?_;refine A4 ?_;refine U8 (Ai call68) (fun w1 hw1 => Ro w1 (s := s) (h_s_gens := (Bv.of_base h_s_gens) w1 hw1) (n_s_gens := z7) (h_s_used := (Bv.of_base h_s_used) w1 hw1) (n_s_used := z7) (h_s_free := (Bv.of_base h_s_free) w1 hw1) (n_s_free := z7)) (k := ?_);refine Gg ?_;refine Yd 7 rfl (fun a9 => ?_) (fun a9 => ?_);rotate_left
 ·refine Bn 3 rfl ?_;refine Pk ?_;refine Bn 6 rfl ?_;refine Pk ?_;refine Bn 6 rfl ?_;refine Pk ?_;refine Bn 9 rfl ?_;refine jU ?_;refine Ad results124 z1 (fun w1 hw1 => ?_);exact ⟨(rq (hF.f a9)), hw1.ext_out⟩
 have hfhq1 := Qs a9;refine mH ?_;refine Bm Kn (k := ?_);refine lS ?_;refine Fh 12 rfl (fun b9 => ?_) (fun b9 => ?_);rotate_left
 ·refine Bn 6 rfl ?_;refine Pk ?_;refine Bn 6 rfl ?_;refine Pk ?_;refine Bn 9 rfl ?_;refine jU ?_;refine Ad results124 z1 (fun w1 hw1 => ?_);exact ⟨(rq ((hF.t a9).neg b9)), hw1.ext_out⟩
 refine mH ?_;refine zS ?_;refine Bm N8 (k := ?_);refine Bm Nu (k := ?_);refine lS ?_;refine Fh 20 rfl (fun c7 => ?_) (fun c7 => ?_);rotate_left
 ·refine Bn 6 rfl ?_;refine Pk ?_;refine Bn 9 rfl ?_;refine jU ?_;refine Ad results124 z1 (fun w1 hw1 => ?_);exact ⟨(rq (((hF.t a9).pos b9).neg c7)), hw1.ext_out⟩
 refine AJ2 ?_;refine mH ?_;refine Bm (Cj (n := s.used.length) runUnderlying23 sizeOf4 h.slot.toNat Sq (gD z3) Km) (k := ?_);refine Bm (Cb isAgg4 h.slot.toNat 0 Sq (gD z3)) (k := ?_);refine lS ?_;refine Yd 28 rfl (fun c8 => ?_) (fun c8 => ?_);rotate_left
 ·refine Bn 9 rfl ?_;refine jU ?_;refine Ad results124 z1 (fun w1 hw1 => ?_);exact ⟨(rq ((((hF.t a9).pos b9).pos c7).f c8)), hw1.ext_out⟩
 refine zS ?_;refine mH ?_;refine Bm (Cj (n := s.gens.length) runUnderlying22 sizeOf3 h.slot.toNat Sp (gD z3) Km) (k := ?_);refine Bm (Cb isAgg3 h.slot.toNat 0 Sp (gD z3)) (k := ?_);refine Bm (Al AB4) (k := ?_);refine aA ?_;refine Bm Gy (k := ?_);refine Be Hn (k := ?_);refine pV ?_;refine Ad results124 z1 (fun w1 hw1 => ?_);exact ⟨(rq ((((hF.t a9).pos b9).pos c7).t c8)), hw1.ext_out⟩

theorem L7 (w : World) {s_gens_a : Option Addr} {s_gens_c : Nat} {s_used_a : Option Addr} {s_used_c : Nat} {s_free_a : Option Addr} {s_free_c : Nat} {s : Slots} (h_s_gens : Sl w eI 1 s_gens_a s.gens) (n_s_gens : s.gens.length ≤ 1000) (h_s_used : Sl w eB 1 s_used_a s.used) (n_s_used : s.used.length ≤ 1000) (h_s_free : Sl w eI 1 s_free_a s.free) (n_s_free : s.free.length ≤ 1000) : Calls Tryz.prog 67 (List.toArray [(Value.agg [(vs s_gens_a s.gens.length s_gens_c), (vs s_used_a s.used.length s_used_c), (vs s_free_a s.free.length s_free_c)].toArray)]) w fun e w2 => ∃ a1 : Option Addr, ∃ c1 : Nat, ∃ B1 : An, e = .returned (vs a1 ((Jj s).length) c1) ∧ Dj w w2 B1 ∧ Bg Zc 2 42 a1 c1 B1 (Jj s) := by
 have hF := Is.refl (Jj s);refine enter func67 ntmps67 (h := ?_);refine Z2 ?_;refine Aj Af Jq (k := fun r1 p4 => ?_);refine Mp ?_;refine Un ?_;refine Sc ?_;refine Yh (σ1 := Nat) (σ2 := List Handle) (σ3 := Option Addr) (σ4 := Nat) (σ5 := An) (σ6 := Nat) (fun n_3 out_1 j1 j3 i8 i_2 => (i8 ++ ((r1, oc [(vs s_gens_a s.gens.length s_gens_c), (vs s_used_a s.used.length s_used_c), (vs s_free_a s.free.length s_free_c)] 25) :: []))) (fun n_3 out_1 j1 j3 i8 i_2 => [(1, (Value.pointer (some ⟨r1, 0, none⟩))), (2, (vs none 0 0)), (3, (vs j1 out_1.length j3)), (4, (vi ((i_2 : Nat) : Int)))]) (fun n_3 out_1 j1 j3 i8 i_2 => s.gens.length - i_2 < n_3 ∧ Is (Ma s (s.gens.length + 1) [] 0) (Ma s n_3 out_1 i_2) ∧ Bg Zc 2 42 j1 j3 i8 out_1 ∧ out_1.length ≤ i_2 ∧ i_2 ≤ s.gens.length) (fun n_3 out_1 j1 j3 i8 i_2 => n_3) (s.gens.length + 1) ([]) none 0 ([]) 0 ?_ se (List.Perm.refl _) ?_
 ·exact ⟨Nat.lt_succ_self _, Is.refl _, Bg.nil, Vi, Vi⟩
 ·rintro (_ | n_3) out_1 j1 j3 i8 i_2 ⟨hm5, aa, t6, hi6, hi7⟩
  ·omega
  refine Fj ?_;refine Z5 ?_;refine zZ ?_;refine Qb ?_;refine Ar 10 rfl (fun a9 => ?_) (fun a9 => ?_);rotate_left
  ·refine Ag 2 rfl ?_;refine Rt ?_;refine pT ?_;refine dF ?_;refine Ad results67 z1 (fun w1 hw1 => ?_);exact ⟨j1, j3, i8, (rq (hF.rn2 (aa.neg a9))), (Bd (L := i8) (hw1.perm (List.Perm.refl _)) rfl.symm), (by rw [(hF.rn2 (aa.neg a9)).eq]; exact t6)⟩
  refine Ay (Ck isAgg25 sizeOf25) (k := ?_);refine Ku (Ai call68) (fun w1 hw1 => Ro w1 (s := s) (h_s_gens := (Bv.of_base h_s_gens) w1 hw1) (n_s_gens := z7) (h_s_used := (Bv.of_base h_s_used) w1 hw1) (n_s_used := z7) (h_s_free := (Bv.of_base h_s_free) w1 hw1) (n_s_free := z7)) (k := ?_);refine zF ?_;refine Cx rfl (fun b9 => ?_) (fun b9 => ?_);rotate_left
  ·refine Cz ?_;refine dF ?_;refine Ad results67 z1 (fun w1 hw1 => ?_);exact ⟨j1, j3, i8, (rq (hF.rn2 ((aa.pos a9).f b9))), (Bd (L := i8) (hw1.perm (List.Perm.refl _)) rfl.symm), (by rw [(hF.rn2 ((aa.pos a9).f b9)).eq]; exact t6)⟩
  have hfhq2 := Qs b9;refine gA ?_;refine lV ?_;refine Cr ?_;refine AS8 ?_;refine Z0 ?_;refine Cx rfl (fun c7 => ?_) (fun c7 => ?_);rotate_left
  ·refine Bt ?_;refine Qe ?_;exact Ra n_3 out_1 j1 j3 i8 (i_2 + 1) ⟨by omega, (((aa.pos a9).t b9).f c7), t6, Vi, Vi⟩ (Nat.lt_succ_self _) se (List.Perm.refl _)
  refine jR ?_;refine qH ?_;refine AS7 ?_;refine Ah z69 (k := ?_);refine Aj Af (Fk (l := [_, _]) runUnderlying90 sizeOf42 zeroValue42) (k := fun r2 bv => ?_);refine Ba (out_1 ++ ([(Handle.mk ((i_2 : Nat) : Int) (s.gens.getD i_2 default))] : List Handle)) rfl AD5 underlying90 Jw t6 (qb q0) (Bv.lit (xs := ([(Handle.mk ((i_2 : Nat) : Int) (s.gens.getD i_2 default))] : List Handle)) Jw) ⟨by omega, by omega⟩ (n := out_1.length) (m := 1) (k := fun ax1 cx1 bc m7 => ?_);have hal1 : (out_1 ++ ([(Handle.mk ((i_2 : Nat) : Int) (s.gens.getD i_2 default))] : List Handle)).length = out_1.length + 1 := by first | rfl | exact List.length_append | simp
  refine pJ ?_;refine Vw ?_;refine Ev _ (sa (sd (sk sz))) ?_;refine Ch ?_;refine qD ?_;exact Ra n_3 (out_1 ++ ([(Handle.mk ((i_2 : Nat) : Int) (s.gens.getD i_2 default))] : List Handle)) ax1 cx1 bc (i_2 + 1) ⟨by omega, (((aa.pos a9).t b9).t c7), m7, Vi, Vi⟩ (Nat.lt_succ_self _) se (List.Perm.refl _)

theorem yI (w : World) {s_gens_a : Option Addr} {s_gens_c : Nat} {s_used_a : Option Addr} {s_used_c : Nat} {s_free_a : Option Addr} {s_free_c : Nat} {s : Slots} (h_s_gens : Sl w eI 1 s_gens_a s.gens) (n_s_gens : s.gens.length ≤ 1000) (h_s_used : Sl w eB 1 s_used_a s.used) (n_s_used : s.used.length ≤ 1000) (h_s_free : Sl w eI 1 s_free_a s.free) (n_s_free : s.free.length ≤ 1000) : Calls Tryz.prog 120 (List.toArray [(Value.agg [(vs s_gens_a s.gens.length s_gens_c), (vs s_used_a s.used.length s_used_c), (vs s_free_a s.free.length s_free_c)].toArray)]) w fun e w2 => ∃ a1 : Option Addr, ∃ c1 : Nat, ∃ a2 : Option Addr, ∃ c2 : Nat, ∃ a3 : Option Addr, ∃ c3 : Nat, ∃ B1 : An, ∃ B2 : An, ∃ B3 : An, e = .returned (Value.tuple [(Value.agg [(vs a1 ((Df s).1.gens.length) c1), (vs a2 ((Df s).1.used.length) c2), (vs a3 ((Df s).1.free.length) c3)].toArray), (Value.agg [(vi ((Df s).2.1.slot)), (vi ((Df s).2.1.gen))].toArray), (vi ((Df s).2.2))].toArray) ∧ Dj w w2 (B1 ++ (B2 ++ B3)) ∧ Bg eI 1 3 a1 c1 B1 (Df s).1.gens ∧ Bg eB 1 4 a2 c2 B2 (Df s).1.used ∧ Bg eI 1 3 a3 c3 B3 (Df s).1.free := by
 have hF := Is.refl (Df s);refine enter func120 ntmps120 (h := ?_);refine Z2 ?_;refine Aj Af Jq (k := fun r1 p4 => ?_);refine Aj Af jN (k := fun r2 bv => ?_);refine Aj Af z67 (k := fun r3 iu => ?_);refine Un ?_;refine AR9 ?_;refine Zu ?_;refine Cx rfl (fun a9 => ?_) (fun a9 => ?_)
 ·refine Bp ?_;refine Ch ?_;refine gB ?_;refine Ad results120 (Dd.agg isAgg25 sizeOf25 rfl me rfl (Dd.agg isAgg42 sizeOf42 rfl me rfl z1)) (fun w1 hw1 => ?_);exact ⟨none, 0, none, 0, none, 0, [], [], [], (rq (hF.t a9)), (hw1.fresh_out.sub Gx), (ro (hF.t a9)), (ro (hF.t a9)), (ro (hF.t a9))⟩
 have hfhq1 := Qs pO;refine Nm ?_;refine jT ?_;refine dH ?_;refine Un ?_;refine Fj ?_;refine AF7 ?_;refine mN ?_;refine Fh 19 rfl (fun b9 => ?_) (fun b9 => ?_)
 ·refine Bn 10 rfl ?_;refine kB ?_;refine gB ?_;refine Ad results120 (Dd.agg isAgg25 sizeOf25 rfl me rfl (Dd.agg isAgg42 sizeOf42 rfl me rfl z1)) (fun w1 hw1 => ?_);exact ⟨none, 0, none, 0, none, 0, [], [], [], (rq ((hF.f a9).pos b9)), (hw1.fresh_out.sub Gx), (ro ((hF.f a9).pos b9)), (ro ((hF.f a9).pos b9)), (ro ((hF.f a9).pos b9))⟩
 refine zS ?_;refine vO ?_;refine Bm (Cj (n := s.free.length) runUnderlying22 sizeOf3 ((((s.free.length : Nat) : Int) - 1).toNat) Xu (gD z3) Km) (k := ?_);refine Bm (Cb isAgg3 ((((s.free.length : Nat) : Int) - 1).toNat) 0 Xu (gD z3)) (k := ?_);refine Bm (Cj (n := s.gens.length) runUnderlying22 sizeOf3 ((s.free.getD ((((s.free.length : Nat) : Int) - 1).toNat) default).toNat) Sp (gD z3) Km) (k := ?_);refine Bm (Cb isAgg3 ((s.free.getD ((((s.free.length : Nat) : Int) - 1).toNat) default).toNat) 0 Sp (gD z3)) (k := ?_);refine Bm Gy (k := ?_);refine Vk ?_;refine Av rfl (fun c7 => ?_) (fun c7 => ?_)
 ·refine Bp ?_;refine Ch ?_;refine gB ?_;refine Ad results120 (Dd.agg isAgg25 sizeOf25 rfl me rfl (Dd.agg isAgg42 sizeOf42 rfl me rfl z1)) (fun w1 hw1 => ?_);exact ⟨none, 0, none, 0, none, 0, [], [], [], (rq (((hF.f a9).neg b9).pos c7)), (hw1.fresh_out.sub Gx), (ro (((hF.f a9).neg b9).pos c7)), (ro (((hF.f a9).neg b9).pos c7)), (ro (((hF.f a9).neg b9).pos c7))⟩
 refine Xv ?_;refine AS0 ?_;rintro cy cr cz l9 ⟨i5, d6, o5, o6, q9, t5, ce, qo, ur, p9, y6, t9, eo, ga⟩;refine ⟨_, _, p9, (l9.fresh y6).perm (eqp (nA (nA rfl))), ?_⟩;refine Aj Af jN (k := fun r4 jl => ?_);refine dI ?_;refine Jl ?_;refine Ev _ (sk (sa (sa (sa (sk (sk (sd sz))))))) ?_;refine Ch ?_;refine vW ?_;refine Ah (Cj (n := s.free.length) runUnderlying22 sizeOf3 ((((s.free.length : Nat) : Int) - 1).toNat) (ga.slj Bb) (gD z3) Km) (k := ?_);refine Ah (Cb isAgg3 ((((s.free.length : Nat) : Int) - 1).toNat) 0 (ga.slj Bb) (gD z3)) (k := ?_);refine Mp ?_;refine vW ?_;have hl4 : (s.free.take ((((s.free.length : Nat) : Int) - 1).toNat)).length = (((s.free.length : Nat) : Int) - 1).toNat := by rw [List.length_take]; omega
 have hl4c := ga.le';refine Ah (Dv (s.free.take ((((s.free.length : Nat) : Int) - 1).toNat)).length runUnderlying22 (fun w => ⟨_, sizeOf3 w⟩) (hm := z4) (hi := z4)) (k := ?_);refine vC ?_;refine Pl ?_;refine lV ?_;refine Cr ?_;refine Ah (Cj (n := s.used.length) runUnderlying23 sizeOf4 ((s.free.getD ((((s.free.length : Nat) : Int) - 1).toNat) default).toNat) (eo.slj Ds) (gD z3) Km) (k := ?_);refine Gq ((s.free.getD ((((s.free.length : Nat) : Int) - 1).toNat) default).toNat) true sizeOf4 Ds eo (qb (qd q0)) yZ (k := fun Bs1 hos1 => ?_);refine Pl ?_;refine qH ?_;refine AV5 ?_;refine Ah (Cb isAgg3 ((s.free.getD ((((s.free.length : Nat) : Int) - 1).toNat) default).toNat) 0 (t9.slj Bb) (gD z3)) (k := ?_);refine Wx ?_;refine AV5 ?_;refine Gq ((s.free.getD ((((s.free.length : Nat) : Int) - 1).toNat) default).toNat) ((s.gens.getD ((s.free.getD ((((s.free.length : Nat) : Int) - 1).toNat) default).toNat) default) + 1) sizeOf3 Bb t9 (qd (qb q0)) yZ (k := fun Bs2 hos2 => ?_);refine Jl ?_;refine Ex _ _ (vp ((qc (qc (qa (qc q0)))).trans (qa (qc (qc (qa (qc q0)))))) (nC (nC nE))) Cy 11 [(true, 0), (true, 1), (true, 2), (true, 3), (true, 4), (true, 5), (true, 6), (true, 7), (false, 8), (false, 9), (true, 10)] z5 ?_;refine A4 ?_;refine Gg ?_;refine zH ?_;refine Gg ?_;refine Be (Cj (n := s.gens.length) runUnderlying22 sizeOf3 ((s.free.getD ((((s.free.length : Nat) : Int) - 1).toNat) default).toNat) (hos2.slj Bb) (gD z3) Km) (k := ?_);refine Be (Cb isAgg3 ((s.free.getD ((((s.free.length : Nat) : Int) - 1).toNat) default).toNat) 0 (hos2.slj Bb) (gD z3)) (k := ?_);refine Q9 ?_;refine Sd ?_;refine Ad results120 (Dd.agg isAgg25 sizeOf25 rfl me rfl (Dd.agg isAgg42 sizeOf42 rfl me rfl z1)) (fun w1 hw1 => ?_);exact ⟨i5, d6, o5, o6, q9, t5, Bs2, Bs1, ur, (rq (((hF.f a9).neg b9).neg c7)), (Bd (L := (Bs2 ++ (Bs1 ++ ur))) (hw1.perm (((qb (qb (qd (qd (qb q0))))).trans (qd (qb (qb (qd q0))))).trans (qd (qd (qb (qb q0)))))) (nA (nA rfl)).symm), (by rw [(((hF.f a9).neg b9).neg c7).eq]; exact hos2), (by rw [(((hF.f a9).neg b9).neg c7).eq]; exact hos1), (by rw [(((hF.f a9).neg b9).neg c7).eq]; exact (ga.take Bb ((((s.free.length : Nat) : Int) - 1).toNat)))⟩

theorem yJ (w : World) {s_gens_a : Option Addr} {s_gens_c : Nat} {s_used_a : Option Addr} {s_used_c : Nat} {s_free_a : Option Addr} {s_free_c : Nat} {s : Slots} {h : Handle} (h_s_gens : Sl w eI 1 s_gens_a s.gens) (n_s_gens : s.gens.length ≤ 1000) (h_s_used : Sl w eB 1 s_used_a s.used) (n_s_used : s.used.length ≤ 1000) (h_s_free : Sl w eI 1 s_free_a s.free) (n_s_free : s.free.length ≤ 1000) : Calls Tryz.prog 80 (List.toArray [(Value.agg [(vs s_gens_a s.gens.length s_gens_c), (vs s_used_a s.used.length s_used_c), (vs s_free_a s.free.length s_free_c)].toArray), (Value.agg [(vi h.slot), (vi h.gen)].toArray)]) w fun e w2 => ∃ a1 : Option Addr, ∃ c1 : Nat, ∃ a2 : Option Addr, ∃ c2 : Nat, ∃ a3 : Option Addr, ∃ c3 : Nat, ∃ B1 : An, ∃ B2 : An, ∃ B3 : An, e = .returned (Value.tuple [(Value.agg [(vs a1 ((Gp s h).1.gens.length) c1), (vs a2 ((Gp s h).1.used.length) c2), (vs a3 ((Gp s h).1.free.length) c3)].toArray), (vi ((Gp s h).2))].toArray) ∧ Dj w w2 (B1 ++ (B2 ++ B3)) ∧ Bg eI 1 3 a1 c1 B1 (Gp s h).1.gens ∧ Bg eB 1 4 a2 c2 B2 (Gp s h).1.used ∧ Bg eI 1 3 a3 c3 B3 (Gp s h).1.free := by
 have hF := Is.refl (Gp s h);refine enter func80 ntmps80 (h := ?_);refine Z2 ?_;refine Aj Af Jq (k := fun r1 p4 => ?_);refine Aj Af pN (k := fun r2 bv => ?_);refine Aj Af jN (k := fun r3 iu => ?_);refine Un ?_;refine AR9 ?_;refine Zu ?_;refine Cx rfl (fun a9 => ?_) (fun a9 => ?_)
 ·refine Bp ?_;refine Ch ?_;refine uZ ?_;refine Qa ?_;refine Ad results80 (Dd.agg isAgg25 sizeOf25 rfl me rfl z1) (fun w1 hw1 => ?_);exact ⟨none, 0, none, 0, none, 0, [], [], [], (rq (hF.t a9)), (hw1.fresh_out.sub Gx), (ro (hF.t a9)), (ro (hF.t a9)), (ro (hF.t a9))⟩
 have hfhq1 := Qs pO;refine Kx ?_;refine pL ?_;refine mZ ?_;refine Fu (Ai call124) (fun w1 hw1 => sE w1 (s := s) (h := h) (h_s_gens := (Bv.of_base h_s_gens) w1 hw1) (n_s_gens := z7) (h_s_used := (Bv.of_base h_s_used) w1 hw1) (n_s_used := z7) (h_s_free := (Bv.of_base h_s_free) w1 hw1) (n_s_free := z7)) (k := ?_);refine Zu ?_;refine Cx rfl (fun b9 => ?_) (fun b9 => ?_)
 ·refine Bp ?_;refine Ch ?_;refine uZ ?_;refine Qa ?_;refine Ad results80 (Dd.agg isAgg25 sizeOf25 rfl me rfl z1) (fun w1 hw1 => ?_);exact ⟨none, 0, none, 0, none, 0, [], [], [], (rq ((hF.f a9).t b9)), (hw1.fresh_out.sub Gx), (ro ((hF.f a9).t b9)), (ro ((hF.f a9).t b9)), (ro ((hF.f a9).t b9))⟩
 have hfhq2 := yE (by simpa using b9);refine Xv ?_;refine AS0 ?_;rintro cy cr cz l9 ⟨i5, d6, o5, o6, q9, t5, ce, qo, ur, p9, y6, t9, eo, ga⟩;refine ⟨_, _, p9, (l9.fresh y6).perm (eqp (nA (nA rfl))), ?_⟩;refine Aj Af jN (k := fun r4 jl => ?_);refine dI ?_;refine Jl ?_;refine Ev _ (sk (sa (sa (sa (sk (sk (sd sz))))))) ?_;refine Ch ?_;refine lV ?_;refine Ah (Al Jo) (k := ?_);refine Iq ?_;refine Ah (Cj (n := s.used.length) runUnderlying23 sizeOf4 h.slot.toNat (eo.slj Ds) (gD z3) Km) (k := ?_);refine Gq h.slot.toNat false sizeOf4 Ds eo (qb (qd q0)) yZ (k := fun Bs1 hos1 => ?_);refine Pl ?_;refine Z86 ?_;refine Ah (Al Jo) (k := ?_);refine Iq ?_;refine Aj Af Zt (k := fun r5 qk => ?_);refine Ba (s.free ++ ([h.slot] : List Int)) rfl Dp underlying22 Bb ga (qb (qd (qb (qd q0)))) (Bv.lit (xs := ([h.slot] : List Int)) Bb) ⟨by omega, by omega⟩ (n := s.free.length) (m := 1) (k := fun ax1 cx1 bc m7 => ?_);have hal1 : (s.free ++ ([h.slot] : List Int)).length = s.free.length + 1 := by first | rfl | exact List.length_append | simp
 refine vC ?_;refine Jl ?_;refine Ev _ (sa (sd (sa (sk (sa (sk (sd sz))))))) ?_;refine Ch ?_;refine P5 ?_;refine Z9 ?_;refine Ad results80 (Dd.agg isAgg25 sizeOf25 rfl me rfl z1) (fun w1 hw1 => ?_);exact ⟨i5, d6, o5, o6, ax1, cx1, ce, Bs1, bc, (rq ((hF.f a9).f b9)), (Bd (L := (ce ++ (Bs1 ++ bc))) (hw1.perm ((q0.trans (qd q0)).trans (qd (qd (qb q0))))) (nA (nA rfl)).symm), (by rw [((hF.f a9).f b9).eq]; exact t9), (by rw [((hF.f a9).f b9).eq]; exact hos1), (by rw [((hF.f a9).f b9).eq]; exact m7)⟩

theorem jH (w : World) {s : Az} : Jc Tryz.prog 105 [(vt s)] w (Value.bool (aQ s)) := by
 have hF := Is.refl (aQ s);refine enter func105 ntmps105 (h := ?_);refine Zw ?_;refine A1 ?_;refine Zx ?_;refine Ar 6 rfl (fun a9 => ?_) (fun a9 => ?_);rotate_left
 ·refine Ag 3 rfl ?_;refine qL ?_;refine Ok ?_;refine Ad results105 z1 (fun w1 hw1 => ?_);exact ⟨(rq (hF.neg a9)), hw1.ext_out⟩
 refine R3 ?_;refine Ay Jf (k := ?_);refine Sn ?_;refine Ar 11 rfl (fun b9 => ?_) (fun b9 => ?_);rotate_left
 ·refine Ag 2 rfl ?_;refine Ok ?_;refine Ad results105 z1 (fun w1 hw1 => ?_);exact ⟨(rq ((hF.pos a9).neg b9)), hw1.ext_out⟩
 refine Hw ?_;refine Ku (Ai call135) (fun w1 hw1 => rT w1 (s := s) (n_s := z7)) (k := ?_);refine Kt ?_;refine Ad results105 z1 (fun w1 hw1 => ?_);exact ⟨(rq ((hF.pos a9).pos b9)), hw1.ext_out⟩

theorem oV (w : World) {t_rules_a : Option Addr} {t_rules_c : Nat} {t_creds_a : Option Addr} {t_creds_c : Nat} {t : Aa} {seq : Int} (h_t_rules : Sl w En 5 t_rules_a t.rules) (n_t_rules : t.rules.length ≤ 1000) (h_t_creds : Sl w Fy 4 t_creds_a t.creds) (n_t_creds : t.creds.length ≤ 1000) : Jc Tryz.prog 69 [(Value.agg [(vi t.handle.slot), (vi t.handle.gen), (vt t.name), (vi t.state), (vi t.version), (vs t_rules_a t.rules.length t_rules_c), (vs t_creds_a t.creds.length t_creds_c), (vi t.deadline)].toArray), (vi seq)] w (Value.bool (Oe t seq)) := by
 have hF := Is.refl (Oe t seq);refine enter func69 ntmps69 (h := ?_);refine Z2 ?_;refine Aj Af z68 (k := fun r1 p4 => ?_);refine gF ?_;refine vH ?_;refine Fu (Ai call105) (fun w1 hw1 => jH w1 (s := t.name)) (k := ?_);refine mP ?_;refine Dq 9 rfl (fun a9 => ?_) (fun a9 => ?_)
 ·refine Ag 3 rfl ?_;refine Xx ?_;refine Xx ?_;refine fT ?_;refine Rz ?_;refine Ad results69 z1 (fun w1 hw1 => ?_);exact ⟨(rq (hF.t a9)), hw1.ext_out⟩
 refine qB ?_;refine Ay Nu (k := ?_);refine Pz ?_;refine Ar 14 rfl (fun b9 => ?_) (fun b9 => ?_)
 ·refine Ag 3 rfl ?_;refine Xx ?_;refine fT ?_;refine Rz ?_;refine Ad results69 z1 (fun w1 hw1 => ?_);exact ⟨(rq ((hF.f a9).pos b9)), hw1.ext_out⟩
 refine qB ?_;refine qI ?_;refine Ar 19 rfl (fun c7 => ?_) (fun c7 => ?_)
 ·refine Ag 3 rfl ?_;refine fT ?_;refine Rz ?_;refine Ad results69 z1 (fun w1 hw1 => ?_);exact ⟨(rq (((hF.f a9).neg b9).pos c7)), hw1.ext_out⟩
 refine qA ?_;refine Ay Nu (k := ?_);refine Pz ?_;refine Ar 24 rfl (fun c8 => ?_) (fun c8 => ?_)
 ·refine Ag 4 rfl ?_;refine Rz ?_;refine Ad results69 z1 (fun w1 hw1 => ?_);exact ⟨(rq ((((hF.f a9).neg b9).neg c7).pos c8)), hw1.ext_out⟩
 refine qA ?_;refine bT ?_;refine Rt ?_;refine Av rfl (fun d5 => ?_) (fun d5 => ?_)
 ·refine Bp ?_;refine Qc ?_;refine Ad results69 z1 (fun w1 hw1 => ?_);exact ⟨(rq (((((hF.f a9).neg b9).neg c7).neg c8).pos d5)), hw1.ext_out⟩
 refine Kx ?_;refine Z2 ?_;refine Ah (Al cT) (k := ?_);refine Iq ?_;refine Qb ?_;refine Ar 33 rfl (fun d8 => ?_) (fun d8 => ?_)
 ·refine Ag 3 rfl ?_;refine Sn ?_;refine Ag 8 rfl ?_;refine Rz ?_;refine Ad results69 z1 (fun w1 hw1 => ?_);exact ⟨(rq ((((((hF.f a9).neg b9).neg c7).neg c8).neg d5).pos d8)), hw1.ext_out⟩
 refine qC ?_;refine qI ?_;refine Ar 38 rfl (fun k6 => ?_) (fun k6 => ?_)
 ·refine Ag 8 rfl ?_;refine Rz ?_;refine Ad results69 z1 (fun w1 hw1 => ?_);exact ⟨(rq (((((((hF.f a9).neg b9).neg c7).neg c8).neg d5).neg d8).pos k6)), hw1.ext_out⟩
 refine qC ?_;refine Ay Mj (k := ?_);refine Hw ?_;refine Ar 42 rfl (fun i7 => ?_) (fun i7 => ?_);rotate_left
 ·refine Ag 3 rfl ?_;refine Ay Ir (k := ?_);refine Rt ?_;refine Ha rfl ?_;refine Nm ?_;refine vF ?_;refine AT6 ?_;refine Dq 51 rfl (fun j5 => ?_) (fun j5 => ?_);rotate_left
  ·refine Ag 3 rfl ?_;refine Ok ?_;refine Ad results69 z1 (fun w1 hw1 => ?_);exact ⟨(rq (((((((((hF.f a9).neg b9).neg c7).neg c8).neg d5).neg d8).neg k6).neg i7).f j5)), hw1.ext_out⟩
  refine AU1 ?_;refine Kt ?_;refine Ad results69 z1 (fun w1 hw1 => ?_);exact ⟨(rq (((((((((hF.f a9).neg b9).neg c7).neg c8).neg d5).neg d8).neg k6).neg i7).t j5)), hw1.ext_out⟩
 refine qB ?_;refine Ay Mj (k := ?_);refine Ay Hn (k := ?_);refine Rt ?_;refine Av rfl (fun j0 => ?_) (fun j0 => ?_)
 ·refine Bp ?_;refine Qc ?_;refine Ad results69 z1 (fun w1 hw1 => ?_);exact ⟨(rq (((((((((hF.f a9).neg b9).neg c7).neg c8).neg d5).neg d8).neg k6).pos i7).pos j0)), hw1.ext_out⟩
 refine Nm ?_;refine vF ?_;refine AT6 ?_;refine Dq 51 rfl (fun f9 => ?_) (fun f9 => ?_);rotate_left
 ·refine Ag 3 rfl ?_;refine Ok ?_;refine Ad results69 z1 (fun w1 hw1 => ?_);exact ⟨(rq ((((((((((hF.f a9).neg b9).neg c7).neg c8).neg d5).neg d8).neg k6).pos i7).neg j0).f f9)), hw1.ext_out⟩
 refine AU1 ?_;refine Kt ?_;refine Ad results69 z1 (fun w1 hw1 => ?_);exact ⟨(rq ((((((((((hF.f a9).neg b9).neg c7).neg c8).neg d5).neg d8).neg k6).pos i7).neg j0).t f9)), hw1.ext_out⟩

theorem sF (w : World) {r_Sg_a : Option Addr} {r_Sg_c : Nat} {r_Su_a : Option Addr} {r_Su_c : Nat} {r_Sf_a : Option Addr} {r_Sf_c : Nat} {r_l_a : Option Addr} {r_l_c : Nat} {r_l_t : List TA} {r : Ab} (h_r_Sg : Sl w eI 1 r_Sg_a r.slots.gens) (n_r_Sg : r.slots.gens.length ≤ 1000) (h_r_Su : Sl w eB 1 r_Su_a r.slots.used) (n_r_Su : r.slots.used.length ≤ 1000) (h_r_Sf : Sl w eI 1 r_Sf_a r.slots.free) (n_r_Sf : r.slots.free.length ≤ 1000) (h_r_l : Wc w Cn 8 DT r_l_a r.l r_l_t) (n_r_l : r.l.length ≤ 1000) (k_r_l : r.l.length ≤ r_l_c) (hsm : Cv r.l) : Jc Tryz.prog 32 [(Value.agg [(vs r_Sg_a r.slots.gens.length r_Sg_c), (vs r_Su_a r.slots.used.length r_Su_c), (vs r_Sf_a r.slots.free.length r_Sf_c), (vs r_l_a r.l.length r_l_c), (vi r.seq)].toArray)] w (Value.bool (My r)) := by
 have hF := Is.refl (My r);refine enter func32 ntmps32 (h := ?_);refine Z2 ?_;refine Aj Af aW (k := fun r1 p4 => ?_);refine Mp ?_;refine fO ?_;refine Hd (Ai call67) (fun w1 hw1 => L7 w1 (s := r.slots) (h_s_gens := (Bv.of_base h_r_Sg) w1 hw1) (n_s_gens := by first | omega | exact Nat.le_trans (hsm _ z4).1 Gn | exact Nat.le_trans (hsm _ z4).2 Gn | exact Nat.le_trans (hsm2 _ z4).1 Gn | exact Nat.le_trans (hsm2 _ z4).2 Gn) (h_s_used := (Bv.of_base h_r_Su) w1 hw1) (n_s_used := by first | omega | exact Nat.le_trans (hsm _ z4).1 Gn | exact Nat.le_trans (hsm _ z4).2 Gn | exact Nat.le_trans (hsm2 _ z4).1 Gn | exact Nat.le_trans (hsm2 _ z4).2 Gn) (h_s_free := (Bv.of_base h_r_Sf) w1 hw1) (n_s_free := by first | omega | exact Nat.le_trans (hsm _ z4).1 Gn | exact Nat.le_trans (hsm _ z4).2 Gn | exact Nat.le_trans (hsm2 _ z4).1 Gn | exact Nat.le_trans (hsm2 _ z4).2 Gn)) (k := ?_);rintro cy cr cz l9 ⟨i5, d6, ce, p9, y6, t9⟩;refine ⟨_, _, p9, l9.fresh y6, ?_⟩;have yu := yF r.slots;refine gF ?_;refine fO ?_;refine Fu (Ai call68) (fun w1 hw1 => Ro w1 (s := r.slots) (h_s_gens := (Bv.of_base h_r_Sg) w1 hw1) (n_s_gens := by first | omega | exact Nat.le_trans (hsm _ z4).1 Gn | exact Nat.le_trans (hsm _ z4).2 Gn | exact Nat.le_trans (hsm2 _ z4).1 Gn | exact Nat.le_trans (hsm2 _ z4).2 Gn) (h_s_used := (Bv.of_base h_r_Su) w1 hw1) (n_s_used := by first | omega | exact Nat.le_trans (hsm _ z4).1 Gn | exact Nat.le_trans (hsm _ z4).2 Gn | exact Nat.le_trans (hsm2 _ z4).1 Gn | exact Nat.le_trans (hsm2 _ z4).2 Gn) (h_s_free := (Bv.of_base h_r_Sf) w1 hw1) (n_s_free := by first | omega | exact Nat.le_trans (hsm _ z4).1 Gn | exact Nat.le_trans (hsm _ z4).2 Gn | exact Nat.le_trans (hsm2 _ z4).1 Gn | exact Nat.le_trans (hsm2 _ z4).2 Gn)) (k := ?_);refine mP ?_;refine Dq 13 rfl (fun a9 => ?_) (fun a9 => ?_)
 ·refine Ag 3 rfl ?_;refine Xx ?_;refine Sn ?_;refine Ag 6 rfl ?_;refine Rz ?_;refine Ad results32 z1 (fun w1 hw1 => ?_);exact ⟨(rq (hF.t a9)), hw1.ext_out⟩
 have hfhq1 := Qs pO;refine mG ?_;refine Ay Nu (k := ?_);refine Pz ?_;refine Ar 18 rfl (fun b9 => ?_) (fun b9 => ?_)
 ·refine Ag 3 rfl ?_;refine Sn ?_;refine Ag 6 rfl ?_;refine Rz ?_;refine Ad results32 z1 (fun w1 hw1 => ?_);exact ⟨(rq ((hF.f a9).pos b9)), hw1.ext_out⟩
 refine mG ?_;refine qI ?_;refine Ar 23 rfl (fun c7 => ?_) (fun c7 => ?_)
 ·refine Ag 6 rfl ?_;refine Rz ?_;refine Ad results32 z1 (fun w1 hw1 => ?_);exact ⟨(rq (((hF.f a9).neg b9).pos c7)), hw1.ext_out⟩
 refine Hw ?_;refine Ay (Fv runUnderlying90) (k := ?_);refine Ay (Al Iw) (k := ?_);refine Q7 ?_;refine Ay Mj (k := ?_);refine Rt ?_;refine Av rfl (fun c8 => ?_) (fun c8 => ?_)
 ·refine Bp ?_;refine Qc ?_;refine Ad results32 z1 (fun w1 hw1 => ?_);exact ⟨(rq ((((hF.f a9).neg b9).neg c7).pos c8)), hw1.ext_out⟩
 refine Kx ?_;refine Sc ?_;refine Fi (σ1 := Nat) (σ2 := Nat) (fun n_2 i_1 => (ce ++ ((r1, oc [(vs r_Sg_a r.slots.gens.length r_Sg_c), (vs r_Su_a r.slots.used.length r_Su_c), (vs r_Sf_a r.slots.free.length r_Sf_c), (vs r_l_a r.l.length r_l_c), (vi r.seq)] 28) :: []))) (fun n_2 i_1 => [(1, (Value.pointer (some ⟨r1, 0, none⟩))), (2, (Value.bool false)), (3, (vs i5 ((Jj r.slots).length) d6)), (4, (vi ((i_1 : Nat) : Int)))]) (fun n_2 i_1 => r.l.length - i_1 < n_2 ∧ Is (Jy r (r.l.length + 1) 0) (Jy r n_2 i_1) ∧ i_1 ≤ r.l.length) (fun n_2 i_1 => n_2) (r.l.length + 1) 0 ?_ se (List.Perm.refl _) ?_
 ·exact ⟨Nat.lt_succ_self _, Is.refl _, Na⟩
 ·rintro (_ | n_2) i_1 ⟨hm4, j4, hi5⟩
  ·omega
  refine Fj ?_;refine Z5 ?_;refine qE ?_;refine fN ?_;refine Av rfl (fun d5 => ?_) (fun d5 => ?_);rotate_left
  ·refine Cz ?_;refine Qd ?_;refine Ad results32 z1 (fun w1 hw1 => ?_);exact ⟨(rq (((((hF.f a9).neg b9).neg c7).neg c8).ok1 (j4.neg d5))), hw1.ext_out⟩
  refine Qf ?_;refine Fj ?_;refine Fj ?_;refine Fg Cy 22 [(true, 0), (true, 1), (true, 2), (true, 3), (true, 4), (true, 5), (true, 6), (true, 7), (true, 8), (true, 9), (true, 10), (true, 11), (true, 12), (true, 13), (true, 14), (true, 15), (true, 16), (true, 17), (true, 18), (false, 19), (true, 20), (true, 21)] z5 ?_;refine AT9 ?_;refine Be (Md Ix) (k := ?_);refine Be (E8 isAgg42 sizeOf42 i_1 0 (Ff.of_base Eo h_r_l).sl (Ed h_r_l.1 z3)) (k := ?_);refine Zv ?_;refine Be (Cj (n := (Jj r.slots).length) runUnderlying90 sizeOf42 i_1 (t9.slj Jw) (gD z3) Km) (k := ?_);refine Be (Du isAgg42 sizeOf42 i_1 (t9.slj Jw) (gD z3)) (k := ?_);refine Be (bB (AD4 _ _ _ _ _ _)) (k := ?_);refine Gg ?_;refine Fh 49 rfl (fun d8 => ?_) (fun d8 => ?_)
  ·refine Bn 9 rfl ?_;refine kB ?_;refine Qa ?_;refine Wv ?_;refine Ad results32 z1 (fun w1 hw1 => ?_);exact ⟨(rq (((((hF.f a9).neg b9).neg c7).neg c8).er1 ((j4.pos d5).pos d8))), hw1.ext_out⟩
  refine AJ5 ?_;refine aC ?_;refine Bm (Cj (n := r.l.length) runUnderlying26 sizeOf52 i_1 (Ff.of_base Eo h_r_l).sl (Ed h_r_l.1 z3) (Aw h_r_l.1)) (k := ?_);have hcp7 := (h_r_l.2.2 i_1 z3).2.2.1;have hcp8 := (h_r_l.2.2 i_1 z3).2.2.2;refine Bm (Du isAgg52 sizeOf52 i_1 (Ff.of_base Eo h_r_l).sl (Ed h_r_l.1 z3)) (k := ?_);refine Bm (Al Mw) (k := ?_);refine aA ?_;refine tB (Ai call69) (fun w1 hw1 => oV w1 (t := (r.l.getD i_1 default)) (seq := r.seq) (h_t_rules := (fun w hw => ((Ff.of_base Eo h_r_l).at (m := i_1) z3 w hw).1) w1 hw1) (n_t_rules := by first | omega | exact Nat.le_trans (hsm _ z4).1 Gn | exact Nat.le_trans (hsm _ z4).2 Gn | exact Nat.le_trans (hsm2 _ z4).1 Gn | exact Nat.le_trans (hsm2 _ z4).2 Gn) (h_t_creds := (fun w hw => ((Ff.of_base Eo h_r_l).at (m := i_1) z3 w hw).2.1) w1 hw1) (n_t_creds := by first | omega | exact Nat.le_trans (hsm _ z4).1 Gn | exact Nat.le_trans (hsm _ z4).2 Gn | exact Nat.le_trans (hsm2 _ z4).1 Gn | exact Nat.le_trans (hsm2 _ z4).2 Gn)) (k := ?_);refine Bm Ml (k := ?_);refine Vk ?_;refine Cx rfl (fun j0 => ?_) (fun j0 => ?_)
  ·refine Bp ?_;refine Qc ?_;refine Wv ?_;refine Ad results32 z1 (fun w1 hw1 => ?_);exact ⟨(rq (((((hF.f a9).neg b9).neg c7).neg c8).er1 (((j4.pos d5).neg d8).t j0))), hw1.ext_out⟩
  refine Xv ?_;refine Sc ?_;refine Fi (σ1 := Nat) (σ2 := Nat) (fun n_7 k_6 => (ce ++ ((r1, oc [(vs r_Sg_a r.slots.gens.length r_Sg_c), (vs r_Su_a r.slots.used.length r_Su_c), (vs r_Sf_a r.slots.free.length r_Sf_c), (vs r_l_a r.l.length r_l_c), (vi r.seq)] 28) :: []))) (fun n_7 k_6 => [(1, (Value.pointer (some ⟨r1, 0, none⟩))), (2, (Value.bool false)), (3, (vs i5 ((Jj r.slots).length) d6)), (4, (vi ((i_1 : Nat) : Int))), (5, (vi ((k_6 : Nat) : Int)))]) (fun n_7 k_6 => i_1 - k_6 < n_7 ∧ Is (Hp r i_1 (i_1 + 1) 0) (Hp r i_1 n_7 k_6) ∧ k_6 ≤ i_1) (fun n_7 k_6 => n_7) (i_1 + 1) 0 ?_ se (List.Perm.refl _) ?_
  ·exact ⟨Nat.lt_succ_self _, Is.refl _, Na⟩
  ·rintro (_ | n_7) k_6 ⟨hm9, hF8, hi10⟩
   ·omega
   refine mW ?_;refine fN ?_;refine Av rfl (fun f9 => ?_) (fun f9 => ?_);rotate_left
   ·refine Cz ?_;refine Z52 ?_;refine Qe ?_;exact Ez n_2 (i_1 + 1) ⟨by omega, ((((j4.pos d5).neg d8).f j0).ok1 (hF8.neg f9)), z4⟩ (Nat.lt_succ_self _) se (List.Perm.refl _)
   refine Qf ?_;refine Fj ?_;refine Fg Cy 13 [(true, 0), (true, 1), (true, 2), (true, 3), (true, 4), (true, 5), (true, 6), (true, 7), (true, 8), (true, 9), (true, 10), (true, 11), (true, 12)] z5 ?_;refine fS ?_;refine Be (Cj (n := r.l.length) runUnderlying26 sizeOf52 k_6 (Ff.of_base Eo h_r_l).sl (Ed h_r_l.1 z3) (Aw h_r_l.1)) (k := ?_);refine Be (Md Pg) (k := ?_);refine Be (Cb isAgg9 k_6 2 (Ff.of_base Eo h_r_l).sl (Ed h_r_l.1 z3)) (k := ?_);refine AT9 ?_;refine Be (Md Pg) (k := ?_);refine Be (Cb isAgg9 i_1 2 (Ff.of_base Eo h_r_l).sl (Ed h_r_l.1 z3)) (k := ?_);refine Be tK (k := ?_);refine jP ?_;refine Av rfl (fun j5 => ?_) (fun j5 => ?_);rotate_left
   ·refine Bt ?_;refine Qe ?_;exact Ez n_7 (k_6 + 1) ⟨by omega, ((hF8.pos f9).neg j5), z4⟩ (Nat.lt_succ_self _) se (List.Perm.refl _)
   refine Z2 ?_;refine Sr ?_;refine vS ?_;refine Wv ?_;refine Ad results32 z1 (fun w1 hw1 => ?_);exact ⟨(rq (((((hF.f a9).neg b9).neg c7).neg c8).er1 ((((j4.pos d5).neg d8).f j0).er1 ((hF8.pos f9).pos j5)))), hw1.ext_out⟩

theorem sG (w : World) {r_Sg_a : Option Addr} {r_Sg_c : Nat} {r_Su_a : Option Addr} {r_Su_c : Nat} {r_Sf_a : Option Addr} {r_Sf_c : Nat} {r_l_a : Option Addr} {r_l_c : Nat} {r_l_t : List TA} {r : Ab} {s : Az} (h_r_Sg : Sl w eI 1 r_Sg_a r.slots.gens) (n_r_Sg : r.slots.gens.length ≤ 1000) (h_r_Su : Sl w eB 1 r_Su_a r.slots.used) (n_r_Su : r.slots.used.length ≤ 1000) (h_r_Sf : Sl w eI 1 r_Sf_a r.slots.free) (n_r_Sf : r.slots.free.length ≤ 1000) (h_r_l : Wc w Cn 8 DT r_l_a r.l r_l_t) (n_r_l : r.l.length ≤ 1000) (k_r_l : r.l.length ≤ r_l_c) : Jc Tryz.prog 66 [(Value.agg [(vs r_Sg_a r.slots.gens.length r_Sg_c), (vs r_Su_a r.slots.used.length r_Su_c), (vs r_Sf_a r.slots.free.length r_Sf_c), (vs r_l_a r.l.length r_l_c), (vi r.seq)].toArray), (vt s)] w (vi (Bc r s)) := by
 have hF := Is.refl (Bc r s);refine enter func66 ntmps66 (h := ?_);refine Z2 ?_;refine Aj Af aW (k := fun r1 p4 => ?_);refine Un ?_;refine Sc ?_;refine Fi (σ1 := Nat) (σ2 := Nat) (fun n_2 i_1 => ((r1, oc [(vs r_Sg_a r.slots.gens.length r_Sg_c), (vs r_Su_a r.slots.used.length r_Su_c), (vs r_Sf_a r.slots.free.length r_Sf_c), (vs r_l_a r.l.length r_l_c), (vi r.seq)] 28) :: [])) (fun n_2 i_1 => [(1, (vt s)), (2, (Value.pointer (some ⟨r1, 0, none⟩))), (4, (vi 0)), (5, (vi ((i_1 : Nat) : Int)))]) (fun n_2 i_1 => r.l.length - i_1 < n_2 ∧ Is (Im r s (r.l.length + 1) 0) (Im r s n_2 i_1) ∧ i_1 ≤ r.l.length) (fun n_2 i_1 => n_2) (r.l.length + 1) 0 ?_ se (List.Perm.refl _) ?_
 ·exact ⟨Nat.lt_succ_self _, Is.refl _, Na⟩
 ·rintro (_ | n_2) i_1 ⟨hm4, j4, hi5⟩
  ·omega
  refine Fj ?_;refine Z5 ?_;refine qE ?_;refine fN ?_;refine Av rfl (fun a9 => ?_) (fun a9 => ?_);rotate_left
  ·refine Cz ?_;refine Qd ?_;refine Ad results66 z1 (fun w1 hw1 => ?_);exact ⟨(rq (hF.ok1 (j4.neg a9))), hw1.ext_out⟩
  refine gA ?_;refine jV ?_;refine Ah (Cj (n := r.l.length) runUnderlying26 sizeOf52 i_1 (Ff.of_base Eo h_r_l).sl (Ed h_r_l.1 z3) (Aw h_r_l.1)) (k := ?_);refine Ah (Md Pg) (k := ?_);refine Ah (Cb isAgg9 i_1 2 (Ff.of_base Eo h_r_l).sl (Ed h_r_l.1 z3)) (k := ?_);refine Cr ?_;refine Ah tK (k := ?_);refine Z0 ?_;refine Av rfl (fun b9 => ?_) (fun b9 => ?_);rotate_left
  ·refine Bt ?_;refine Qe ?_;exact Ez n_2 (i_1 + 1) ⟨by omega, ((j4.pos a9).neg b9), z4⟩ (Nat.lt_succ_self _) se (List.Perm.refl _)
  refine Z5 ?_;refine pW ?_;refine Ad results66 z1 (fun w1 hw1 => ?_);exact ⟨(rq (hF.er1 ((j4.pos a9).pos b9))), hw1.ext_out⟩

theorem sH (w : World) {a_rules_a : Option Addr} {a_rules_c : Nat} {a_creds_a : Option Addr} {a_creds_c : Nat} {b_rules_a : Option Addr} {b_rules_c : Nat} {b_creds_a : Option Addr} {b_creds_c : Nat} {a : Aa} {b : Aa} (h_a_rules : Sl w En 5 a_rules_a a.rules) (n_a_rules : a.rules.length ≤ 1000) (h_a_creds : Sl w Fy 4 a_creds_a a.creds) (n_a_creds : a.creds.length ≤ 1000) (h_b_rules : Sl w En 5 b_rules_a b.rules) (n_b_rules : b.rules.length ≤ 1000) (h_b_creds : Sl w Fy 4 b_creds_a b.creds) (n_b_creds : b.creds.length ≤ 1000) : Jc Tryz.prog 27 [(Value.agg [(vi a.handle.slot), (vi a.handle.gen), (vt a.name), (vi a.state), (vi a.version), (vs a_rules_a a.rules.length a_rules_c), (vs a_creds_a a.creds.length a_creds_c), (vi a.deadline)].toArray), (Value.agg [(vi b.handle.slot), (vi b.handle.gen), (vt b.name), (vi b.state), (vi b.version), (vs b_rules_a b.rules.length b_rules_c), (vs b_creds_a b.creds.length b_creds_c), (vi b.deadline)].toArray)] w (Value.bool (Vd a b)) := by
 have hF := Is.refl (Vd a b);refine enter func27 ntmps27 (h := ?_);refine Z2 ?_;refine Aj Af z68 (k := fun r1 p4 => ?_);refine Aj Af z68 (k := fun r2 bv => ?_);refine Mp ?_;refine AI3 ?_;refine AI3 ?_;refine Ah (nK (AD3 _ _ _ _ _ _)) (k := ?_);refine Cr ?_;refine Ar 10 rfl (fun a9 => ?_) (fun a9 => ?_);rotate_left
 ·refine Ag 5 rfl ?_;refine Wq ?_;refine Wq ?_;refine Wq ?_;refine Wq ?_;refine Wq ?_;refine Ok ?_;refine Ad results27 z1 (fun w1 hw1 => ?_);exact ⟨(rq (hF.neg a9)), hw1.ext_out⟩
 refine Ay (Al Pg) (k := ?_);refine Ay (Ca isAgg9) (k := ?_);refine Ay (Al Pg) (k := ?_);refine Ay (Ca isAgg9) (k := ?_);refine Ay tK (k := ?_);refine Sn ?_;refine Ar 17 rfl (fun b9 => ?_) (fun b9 => ?_);rotate_left
 ·refine Ag 5 rfl ?_;refine Wq ?_;refine Wq ?_;refine Wq ?_;refine Wq ?_;refine Ok ?_;refine Ad results27 z1 (fun w1 hw1 => ?_);exact ⟨(rq ((hF.pos a9).neg b9)), hw1.ext_out⟩
 refine qB ?_;refine qB ?_;refine Ay Gy (k := ?_);refine Sn ?_;refine Ar 24 rfl (fun c7 => ?_) (fun c7 => ?_);rotate_left
 ·refine Ag 5 rfl ?_;refine Wq ?_;refine Wq ?_;refine Wq ?_;refine Ok ?_;refine Ad results27 z1 (fun w1 hw1 => ?_);exact ⟨(rq (((hF.pos a9).pos b9).neg c7)), hw1.ext_out⟩
 refine qA ?_;refine qA ?_;refine Ay Gy (k := ?_);refine Sn ?_;refine Ar 31 rfl (fun c8 => ?_) (fun c8 => ?_);rotate_left
 ·refine Ag 5 rfl ?_;refine Wq ?_;refine Wq ?_;refine Ok ?_;refine Ad results27 z1 (fun w1 hw1 => ?_);exact ⟨(rq ((((hF.pos a9).pos b9).pos c7).neg c8)), hw1.ext_out⟩
 refine qC ?_;refine qC ?_;refine Ay Gy (k := ?_);refine Sn ?_;refine Ar 38 rfl (fun d5 => ?_) (fun d5 => ?_);rotate_left
 ·refine Ag 5 rfl ?_;refine Wq ?_;refine Ok ?_;refine Ad results27 z1 (fun w1 hw1 => ?_);exact ⟨(rq (((((hF.pos a9).pos b9).pos c7).pos c8).neg d5)), hw1.ext_out⟩
 refine AJ4 ?_;refine AJ4 ?_;refine Ku (Ai call25) (fun w1 hw1 => xL w1 (a := a.rules) (b := b.rules) (h_a := (Bv.of_base h_a_rules) w1 hw1) (n_a := z7) (h_b := (Bv.of_base h_b_rules) w1 hw1) (n_b := z7)) (k := ?_);refine Sn ?_;refine Dq 45 rfl (fun d8 => ?_) (fun d8 => ?_);rotate_left
 ·refine Ag 5 rfl ?_;refine Ok ?_;refine Ad results27 z1 (fun w1 hw1 => ?_);exact ⟨(rq ((((((hF.pos a9).pos b9).pos c7).pos c8).pos d5).f d8)), hw1.ext_out⟩
 refine Q5 ?_;refine Q5 ?_;refine Ku (Ai call63) (fun w1 hw1 => xM w1 (a := a.creds) (b := b.creds) (h_a := (Bv.of_base h_a_creds) w1 hw1) (n_a := z7) (h_b := (Bv.of_base h_b_creds) w1 hw1) (n_b := z7)) (k := ?_);refine Kt ?_;refine Ad results27 z1 (fun w1 hw1 => ?_);exact ⟨(rq ((((((hF.pos a9).pos b9).pos c7).pos c8).pos d5).t d8)), hw1.ext_out⟩

theorem yK (w : World) {a_Sg_a : Option Addr} {a_Sg_c : Nat} {a_Su_a : Option Addr} {a_Su_c : Nat} {a_Sf_a : Option Addr} {a_Sf_c : Nat} {a_l_a : Option Addr} {a_l_c : Nat} {a_l_t : List TA} {b_Sg_a : Option Addr} {b_Sg_c : Nat} {b_Su_a : Option Addr} {b_Su_c : Nat} {b_Sf_a : Option Addr} {b_Sf_c : Nat} {b_l_a : Option Addr} {b_l_c : Nat} {b_l_t : List TA} {a : Ab} {b : Ab} (h_a_Sg : Sl w eI 1 a_Sg_a a.slots.gens) (n_a_Sg : a.slots.gens.length ≤ 1000) (h_a_Su : Sl w eB 1 a_Su_a a.slots.used) (n_a_Su : a.slots.used.length ≤ 1000) (h_a_Sf : Sl w eI 1 a_Sf_a a.slots.free) (n_a_Sf : a.slots.free.length ≤ 1000) (h_a_l : Wc w Cn 8 DT a_l_a a.l a_l_t) (n_a_l : a.l.length ≤ 1000) (k_a_l : a.l.length ≤ a_l_c) (h_b_Sg : Sl w eI 1 b_Sg_a b.slots.gens) (n_b_Sg : b.slots.gens.length ≤ 1000) (h_b_Su : Sl w eB 1 b_Su_a b.slots.used) (n_b_Su : b.slots.used.length ≤ 1000) (h_b_Sf : Sl w eI 1 b_Sf_a b.slots.free) (n_b_Sf : b.slots.free.length ≤ 1000) (h_b_l : Wc w Cn 8 DT b_l_a b.l b_l_t) (n_b_l : b.l.length ≤ 1000) (k_b_l : b.l.length ≤ b_l_c) (hsm : Cv a.l) (hsm2 : Cv b.l) : Jc Tryz.prog 19 [(Value.agg [(vs a_Sg_a a.slots.gens.length a_Sg_c), (vs a_Su_a a.slots.used.length a_Su_c), (vs a_Sf_a a.slots.free.length a_Sf_c), (vs a_l_a a.l.length a_l_c), (vi a.seq)].toArray), (Value.agg [(vs b_Sg_a b.slots.gens.length b_Sg_c), (vs b_Su_a b.slots.used.length b_Su_c), (vs b_Sf_a b.slots.free.length b_Sf_c), (vs b_l_a b.l.length b_l_c), (vi b.seq)].toArray)] w (Value.bool (fA a b)) := by
 have hF := Is.refl (fA a b);refine enter func19 ntmps19 (h := ?_);refine Z2 ?_;refine Aj Af aW (k := fun r1 p4 => ?_);refine Aj Af aW (k := fun r2 bv => ?_);refine gF ?_;refine fO ?_;refine fO ?_;refine Fu (Ai call45) (fun w1 hw1 => yG w1 (a := a.slots) (b := b.slots) (h_a_gens := (Bv.of_base h_a_Sg) w1 hw1) (n_a_gens := by first | omega | exact Nat.le_trans (hsm _ z4).1 Gn | exact Nat.le_trans (hsm _ z4).2 Gn | exact Nat.le_trans (hsm2 _ z4).1 Gn | exact Nat.le_trans (hsm2 _ z4).2 Gn) (h_a_used := (Bv.of_base h_a_Su) w1 hw1) (n_a_used := by first | omega | exact Nat.le_trans (hsm _ z4).1 Gn | exact Nat.le_trans (hsm _ z4).2 Gn | exact Nat.le_trans (hsm2 _ z4).1 Gn | exact Nat.le_trans (hsm2 _ z4).2 Gn) (h_a_free := (Bv.of_base h_a_Sf) w1 hw1) (n_a_free := by first | omega | exact Nat.le_trans (hsm _ z4).1 Gn | exact Nat.le_trans (hsm _ z4).2 Gn | exact Nat.le_trans (hsm2 _ z4).1 Gn | exact Nat.le_trans (hsm2 _ z4).2 Gn) (h_b_gens := (Bv.of_base h_b_Sg) w1 hw1) (n_b_gens := by first | omega | exact Nat.le_trans (hsm _ z4).1 Gn | exact Nat.le_trans (hsm _ z4).2 Gn | exact Nat.le_trans (hsm2 _ z4).1 Gn | exact Nat.le_trans (hsm2 _ z4).2 Gn) (h_b_used := (Bv.of_base h_b_Su) w1 hw1) (n_b_used := by first | omega | exact Nat.le_trans (hsm _ z4).1 Gn | exact Nat.le_trans (hsm _ z4).2 Gn | exact Nat.le_trans (hsm2 _ z4).1 Gn | exact Nat.le_trans (hsm2 _ z4).2 Gn) (h_b_free := (Bv.of_base h_b_Sf) w1 hw1) (n_b_free := by first | omega | exact Nat.le_trans (hsm _ z4).1 Gn | exact Nat.le_trans (hsm _ z4).2 Gn | exact Nat.le_trans (hsm2 _ z4).1 Gn | exact Nat.le_trans (hsm2 _ z4).2 Gn)) (k := ?_);refine mP ?_;refine Dq 12 rfl (fun a9 => ?_) (fun a9 => ?_)
 ·refine Ag 5 rfl ?_;refine Sn ?_;refine Ag 7 rfl ?_;refine Rz ?_;refine Ad results19 z1 (fun w1 hw1 => ?_);exact ⟨(rq (hF.t a9)), hw1.ext_out⟩
 refine mG ?_;refine mG ?_;refine Ay Mj (k := ?_);refine Pz ?_;refine Ar 19 rfl (fun b9 => ?_) (fun b9 => ?_)
 ·refine Ag 7 rfl ?_;refine Rz ?_;refine Ad results19 z1 (fun w1 hw1 => ?_);exact ⟨(rq ((hF.f a9).pos b9)), hw1.ext_out⟩
 refine Ay (Al Iw) (k := ?_);refine Q7 ?_;refine Ay (Al Iw) (k := ?_);refine Q7 ?_;refine Ay Mj (k := ?_);refine Rt ?_;refine Av rfl (fun c7 => ?_) (fun c7 => ?_)
 ·refine Bp ?_;refine Qc ?_;refine Ad results19 z1 (fun w1 hw1 => ?_);exact ⟨(rq (((hF.f a9).neg b9).pos c7)), hw1.ext_out⟩
 refine Kx ?_;refine Sc ?_;refine Fi (σ1 := Nat) (σ2 := Nat) (fun n_2 i_1 => ((r2, oc [(vs b_Sg_a b.slots.gens.length b_Sg_c), (vs b_Su_a b.slots.used.length b_Su_c), (vs b_Sf_a b.slots.free.length b_Sf_c), (vs b_l_a b.l.length b_l_c), (vi b.seq)] 28) :: ((r1, oc [(vs a_Sg_a a.slots.gens.length a_Sg_c), (vs a_Su_a a.slots.used.length a_Su_c), (vs a_Sf_a a.slots.free.length a_Sf_c), (vs a_l_a a.l.length a_l_c), (vi a.seq)] 28) :: []))) (fun n_2 i_1 => [(2, (Value.pointer (some ⟨r1, 0, none⟩))), (3, (Value.pointer (some ⟨r2, 0, none⟩))), (4, (Value.bool false)), (5, (vi ((i_1 : Nat) : Int)))]) (fun n_2 i_1 => a.l.length - i_1 < n_2 ∧ Is (Ki a b (a.l.length + 1) 0) (Ki a b n_2 i_1) ∧ i_1 ≤ a.l.length) (fun n_2 i_1 => n_2) (a.l.length + 1) 0 ?_ se (List.Perm.refl _) ?_
 ·exact ⟨Nat.lt_succ_self _, Is.refl _, Na⟩
 ·rintro (_ | n_2) i_1 ⟨hm4, j4, hi5⟩
  ·omega
  refine Fj ?_;refine Z5 ?_;refine qE ?_;refine fN ?_;refine Av rfl (fun c8 => ?_) (fun c8 => ?_);rotate_left
  ·refine Cz ?_;refine Qd ?_;refine Ad results19 z1 (fun w1 hw1 => ?_);exact ⟨(rq ((((hF.f a9).neg b9).neg c7).ok1 (j4.neg c8))), hw1.ext_out⟩
  refine Qf ?_;refine Fj ?_;refine Fg Cy 12 [(true, 0), (true, 1), (true, 2), (true, 3), (true, 4), (true, 5), (true, 6), (true, 7), (true, 8), (true, 9), (false, 10), (true, 11)] z5 ?_;refine fS ?_;refine Be (Cj (n := a.l.length) runUnderlying26 sizeOf52 i_1 (Ff.of_base Eo h_a_l).sl (Ed h_a_l.1 z3) (Aw h_a_l.1)) (k := ?_);have hcp5 := (h_a_l.2.2 i_1 z3).2.2.1;have hcp6 := (h_a_l.2.2 i_1 z3).2.2.2;refine Be (Du isAgg52 sizeOf52 i_1 (Ff.of_base Eo h_a_l).sl (Ed h_a_l.1 z3)) (k := ?_);refine fS ?_;refine Be (Cj (n := b.l.length) runUnderlying26 sizeOf52 i_1 (Ff.of_base Eo h_b_l).sl (Ed h_b_l.1 z3) (Aw h_b_l.1)) (k := ?_);have hcp7 := (h_b_l.2.2 i_1 z3).2.2.1;have hcp8 := (h_b_l.2.2 i_1 z3).2.2.2;refine Be (Du isAgg52 sizeOf52 i_1 (Ff.of_base Eo h_b_l).sl (Ed h_b_l.1 z3)) (k := ?_);refine U8 (Ai call27) (fun w1 hw1 => sH w1 (a := (a.l.getD i_1 default)) (b := (b.l.getD i_1 default)) (h_a_rules := (fun w hw => ((Ff.of_base Eo h_a_l).at (m := i_1) z3 w hw).1) w1 hw1) (n_a_rules := by first | omega | exact Nat.le_trans (hsm _ z4).1 Gn | exact Nat.le_trans (hsm _ z4).2 Gn | exact Nat.le_trans (hsm2 _ z4).1 Gn | exact Nat.le_trans (hsm2 _ z4).2 Gn) (h_a_creds := (fun w hw => ((Ff.of_base Eo h_a_l).at (m := i_1) z3 w hw).2.1) w1 hw1) (n_a_creds := by first | omega | exact Nat.le_trans (hsm _ z4).1 Gn | exact Nat.le_trans (hsm _ z4).2 Gn | exact Nat.le_trans (hsm2 _ z4).1 Gn | exact Nat.le_trans (hsm2 _ z4).2 Gn) (h_b_rules := (fun w hw => ((Ff.of_base Eo h_b_l).at (m := i_1) z3 w hw).1) w1 hw1) (n_b_rules := by first | omega | exact Nat.le_trans (hsm _ z4).1 Gn | exact Nat.le_trans (hsm _ z4).2 Gn | exact Nat.le_trans (hsm2 _ z4).1 Gn | exact Nat.le_trans (hsm2 _ z4).2 Gn) (h_b_creds := (fun w hw => ((Ff.of_base Eo h_b_l).at (m := i_1) z3 w hw).2.1) w1 hw1) (n_b_creds := by first | omega | exact Nat.le_trans (hsm _ z4).1 Gn | exact Nat.le_trans (hsm _ z4).2 Gn | exact Nat.le_trans (hsm2 _ z4).1 Gn | exact Nat.le_trans (hsm2 _ z4).2 Gn)) (k := ?_);refine Be Ml (k := ?_);refine jP ?_;refine Cx rfl (fun j0 => ?_) (fun j0 => ?_);rotate_left
  ·refine Bt ?_;refine Qe ?_;exact Ez n_2 (i_1 + 1) ⟨by omega, ((j4.pos c8).f j0), z4⟩ (Nat.lt_succ_self _) se (List.Perm.refl _)
  refine dE ?_;refine Ad results19 z1 (fun w1 hw1 => ?_);exact ⟨(rq ((((hF.f a9).neg b9).neg c7).er1 ((j4.pos c8).t j0))), hw1.ext_out⟩

end Go.Proofs.YtopjaeoklkpcpaaGreatDoor.Jd

namespace Go.Proofs.YtopjaeoklkpcpaaGreatDoor.Jd
open Go.Proofs.Tryz
set_option linter.unusedVariables false
set_option linter.unusedSimpArgs false
theorem Ni {l : List Aa} : Cv l ↔ ∀ t ∈ l, t.rules.length ≤ 1000 ∧ t.creds.length ≤ 1000 := by
  constructor
  · intro h t ht;obtain ⟨k, hk, rfl⟩ := List.getElem_of_mem ht;have := h k hk;simpa [List.getD, hk] using this
  · intro h i hi;refine h _ ?_;rw [List.getD_eq_getElem?_getD, List.getElem?_eq_getElem hi]; exact List.getElem_mem hi
theorem Cv.nil : Cv [] := fun i hi => by simp at hi
theorem Cv.at {l : List Aa} (h : Cv l) (i : Nat) : (l.getD i default).rules.length ≤ 1000 ∧ (l.getD i default).creds.length ≤ 1000 := by
  by_cases hi : i < l.length
  · exact h i hi
  · have e : l.getD i default = default := by rw [List.getD_eq_getElem?_getD, List.getElem?_eq_none z4]; rfl
    rw [e]; exact ⟨by decide, by decide⟩
theorem Cv.cons {t : Aa} {l : List Aa} (h1 : t.rules.length ≤ 1000 ∧ t.creds.length ≤ 1000) (h : Cv l) : Cv (t :: l) := by
  rw [Ni] at h ⊢;intro u hu;rcases List.mem_cons.1 hu with rfl | hu
  · exact h1
  · exact h u hu
theorem Cv.append {a b : List Aa} (h : Cv a) (h2 : Cv b) : Cv (a ++ b) := by
  rw [Ni] at h h2 ⊢;intro u hu;rcases List.mem_append.1 hu with hu | hu
  · exact h u hu
  · exact h2 u hu
theorem Cv.one {t : Aa} (h1 : t.rules.length ≤ 1000) (h2 : t.creds.length ≤ 1000) : Cv [t] := Cv.cons ⟨h1, h2⟩ Cv.nil
theorem Cv.take {a : List Aa} (h : Cv a) (n : Nat) : Cv (a.take n) := by
  rw [Ni] at h ⊢;exact fun u hu => h u (List.mem_of_mem_take hu)
theorem Cv.drop {a : List Aa} (h : Cv a) (n : Nat) : Cv (a.drop n) := by
  rw [Ni] at h ⊢;exact fun u hu => h u (List.mem_of_mem_drop hu)
theorem Cv.delL {a : List Aa} (h : Cv a) (i j : Nat) : Cv (delL a i j) := (h.take i).append (h.drop j)
theorem Cv.put : ∀ {l : List Aa} {x : Aa}, Cv l → (x.rules.length ≤ 1000 ∧ x.creds.length ≤ 1000) → Cv (Ge l x)
  | [], x, h, hx => Cv.cons hx Cv.nil
  | t :: r, x, h, hx => by
    have hr : Cv r := by
      rw [Ni] at h ⊢;exact fun u hu => h u (List.mem_cons_of_mem _ hu)
    have ht : t.rules.length ≤ 1000 ∧ t.creds.length ≤ 1000 := by
      rw [Ni] at h;exact h t List.mem_cons_self
    unfold Ge;split
    · exact Cv.cons ht (hr.put hx)
    · split
      · exact Cv.cons hx hr
      · exact Cv.cons hx h
theorem bN (l : List Bs) : ∀ n out i, out.length ≤ i → i ≤ 6 → (Rk l n out i).1.length ≤ 6
  | 0, out, i, h1, h2 => by simp only [Rk]; omega
  | n + 1, out, i, h1, h2 => by
    unfold Rk;split
    · split
      · exact bN l n _ (i + 1) dA z4
      · simp only; omega
    · simp only; omega
theorem L8 (l : List Bs) : (Tx l).length ≤ 6 := bN l 7 [] 0 Gu z4
theorem yL (l : List Bf) : (Kf l).length ≤ 18 := by unfold Kf; rw [List.length_take]; omega
theorem Wj (r : Ab) : ∀ n i acc, Cv acc → Cv (Ve r n i acc).2
  | 0, i, acc, h => h
  | n + 1, i, acc, h => by
    unfold Ve;split
    · split
      · refine Wj r n (i + 1) _ (h.append (Cv.one ?_ ?_))
        · exact Nat.le_trans (yL _) Gn
        · exact Nat.le_trans (L8 _) Gn
      · exact h
    · exact h
theorem Xp (r : Ab) : Cv (Ac r).l := Wj r 9 0 [] Cv.nil
theorem AB5 (r : Ab) : (Ac r).slots.gens.length ≤ 66 ∧ (Ac r).slots.used.length ≤ 66 ∧ (Ac r).slots.free.length ≤ 66 := by
  refine ⟨?_, ?_, ?_⟩
  · show (List.take _ _).length ≤ 66
    rw [List.length_take]; omega
  · show (List.take _ _).length ≤ 66
    rw [List.length_take]; omega
  · show (List.take _ _).length ≤ 66
    rw [List.length_take]; omega
theorem gU (l : List Bf) (a : Int) (r : Bf) : (Cg l a r).1.length ≤ 1000 := by
  unfold Cg
  repeat' split
  all_goals first | (simp; done) | skip
  show (Ms l a.toNat r).length ≤ 1000
  rw [Gt z4]; omega
theorem gV {l : List Bf} (a : Int) (h : l.length ≤ 1000) : (Ci l a).1.length ≤ 1000 := by
  unfold Ci
  repeat' split
  all_goals first | (simp; done) | skip
  show (delL l a.toNat (a + 1).toNat).length ≤ 1000
  rw [Hj z4 z4]; omega
theorem oW (l : List Bs) (key : Az) (now overlap span : Int) : (Em l key now overlap span).1.length ≤ 1000 := by
  unfold Em
  repeat' split
  all_goals first | (simp; done) | skip
  generalize It l key now overlap span (l.length + 1) 0 [] 1 = x;obtain ⟨x1, x2, x3⟩ := x;simp only [kQ]
  repeat' split
  all_goals first | (simp; done) | skip
  show (x2 ++ [Bs.mk x3 key now (now + span)]).length ≤ 1000
  omega
theorem cY {α : Type} {P : α → Prop} {c : Prop} [Decidable c] {a b : α} (h1 : P a) (h2 : P b) : P (if c then a else b) := by split <;> assumption
theorem Ks {r : Ab} (role : Int) (c : Ak) (now : Int) (h : Cv r.l) : Cv (Aq r role c now).1.l := by
  have hx := h.at (xN r c);unfold Aq;simp only [Ie, Iz];show (fun x : Ab × Cs => Cv x.1.l) _
  repeat' (refine cY (P := fun x : Ab × Cs => Cv x.1.l) ?_ ?_)
  all_goals first
    | exact Cv.nil
    | exact h
    | exact h.delL _ _
    | exact h.put hx
    | exact h.put ⟨Nat.zero_le _, oW _ _ _ _ _⟩
    | exact h.put ⟨hx.1, oW _ _ _ _ _⟩
    | exact h.put ⟨gU _ _ _, hx.2⟩
    | exact h.put ⟨gV _ hx.1, hx.2⟩

end Go.Proofs.YtopjaeoklkpcpaaGreatDoor.Jd

namespace Go.Proofs.YtopjaeoklkpcpaaGreatDoor.Jd
open Go.Proofs.Tryz
open Go.Proofs
open Go.RowKit (Below)
set_option maxRecDepth 100000
set_option maxHeartbeats 8000000
set_option linter.unusedVariables false
set_option linter.unusedSimpArgs false

theorem AD7 : Ic Tryz.prog 36 [(0, 1), (1, 1), (2, 1), (3, 1), (4, 5), (9, 1), (10, 1), (11, 1)] := ⟨_, fun w => runUnderlying36 w, fun w => by simp⟩
theorem AN7 (a0 b0 : Int) (a1 b1 : Int) (a2 b2 : Int) (a3 b3 : Int) (a4 b4 : Int) (a5 b5 : Int) (n : Nat) (w : World) : (Op.equalIn (n + 3) 44 (Value.agg [vi a0, vi a1, vi a2, vi a3, vi a4, vi a5].toArray) (Value.agg [vi b0, vi b1, vi b2, vi b3, vi b4, vi b5].toArray)).run Tryz.prog w = .ok (decide (a0 = b0 ∧ a1 = b1 ∧ a2 = b2 ∧ a3 = b3 ∧ a4 = b4 ∧ a5 = b5)) w := by
 have hs0 := rM a2 b2 a3 b3 n w;rw [show n + 3 = (n + 2) + 1 from rfl];unfold Op.equalIn;simp [part, Ur (P := Tryz.prog) (t := 3) (n + 1) .i64 _ _ runUnderlying3, Ur (P := Tryz.prog) (t := 40) (n + 1) .i64 _ _ runUnderlying40, hs0] at *;by_cases h0 : a0 = b0 <;> by_cases h1 : a1 = b1 <;> by_cases h2 : a2 = b2 <;> by_cases h3 : a3 = b3 <;> by_cases h4 : a4 = b4 <;> by_cases h5 : a5 = b5 <;> simp_all
theorem L9 (x y : Operand) (a0 b0 : Int) (a1 b1 : Int) (a2 b2 : Int) (a3 b3 : Int) (a4 b4 : Int) (a5 b5 : Int) (w : World) : (do eqGuard .eql 44 x y (Value.agg [vi a0, vi a1, vi a2, vi a3, vi a4, vi a5].toArray) (Value.agg [vi b0, vi b1, vi b2, vi b3, vi b4, vi b5].toArray); binOp .eql 44 (Value.agg [vi a0, vi a1, vi a2, vi a3, vi a4, vi a5].toArray) (Value.agg [vi b0, vi b1, vi b2, vi b3, vi b4, vi b5].toArray) : Sem Value).run Tryz.prog w = .ok (.bool (decide (a0 = b0 ∧ a1 = b1 ∧ a2 = b2 ∧ a3 = b3 ∧ a4 = b4 ∧ a5 = b5))) w := by
 have h2 : (binOp .eql 44 (Value.agg [vi a0, vi a1, vi a2, vi a3, vi a4, vi a5].toArray) (Value.agg [vi b0, vi b1, vi b2, vi b3, vi b4, vi b5].toArray)).run Tryz.prog w = .ok (.bool (decide (a0 = b0 ∧ a1 = b1 ∧ a2 = b2 ∧ a3 = b3 ∧ a4 = b4 ∧ a5 = b5))) w := by
  show (do pure (.bool (← Op.equal 44 _ _)) : Sem Value).run Tryz.prog w = _
  simp only [Sem.run_bind, Op.equal, Op.maxDepth, AN7 a0 b0 a1 b1 a2 b2 a3 b3 a4 b4 a5 b5 9997, Result.andThen_ok, Sem.run_pure]
 simp [eqGuard];simpa using h2
theorem M0 (w : World) {s_gens_a : Option Addr} {s_gens_c : Nat} {s_used_a : Option Addr} {s_used_c : Nat} {s_free_a : Option Addr} {s_free_c : Nat} {s : Slots} (h_s_gens : Sl w eI 1 s_gens_a s.gens) (k_s_gens : s.gens.length ≤ s_gens_c) (h_s_used : Sl w eB 1 s_used_a s.used) (k_s_used : s.used.length ≤ s_used_c) (h_s_free : Sl w eI 1 s_free_a s.free) (k_s_free : s.free.length ≤ s_free_c) : Jc Tryz.prog 36 [(Value.agg [(vs s_gens_a s.gens.length s_gens_c), (vs s_used_a s.used.length s_used_c), (vs s_free_a s.free.length s_free_c)].toArray)] w (Value.agg [(vs s_gens_a ((s.gens.take (min s.gens.length 66)).length) s_gens_c), (vs s_used_a ((s.used.take (min s.used.length 66)).length) s_used_c), (vs s_free_a ((s.free.take (min s.free.length 66)).length) s_free_c)].toArray) := by
 have hF := Is.refl s;refine enter func36 ntmps36 (h := ?_);refine Z2 ?_;refine Aj Af Jq (k := fun r1 p4 => ?_);refine Aj Af jN (k := fun r2 bv => ?_);refine Jl ?_;refine Fg Cy 22 [(true, 0), (true, 1), (true, 2), (true, 3), (true, 4), (true, 5), (true, 6), (true, 7), (true, 8), (true, 9), (true, 10), (true, 11), (true, 12), (true, 13), (true, 14), (true, 15), (true, 16), (true, 17), (true, 18), (true, 19), (true, 20), (true, 21)] z5 ?_;refine zH ?_;refine zH ?_;refine Be N8 (k := ?_);refine Be dU (k := ?_);have hl1 : (s.gens.take (min s.gens.length 66)).length = (min s.gens.length 66) := by rw [List.length_take]; first | (split <;> omega) | omega
 refine Be (Dv (s.gens.take (min s.gens.length 66)).length runUnderlying22 (fun w => ⟨_, sizeOf3 w⟩) (hm := z4) (hi := by first | (split <;> omega) | omega)) (k := ?_);refine mJ ?_;refine mJ ?_;refine Be (Fv runUnderlying23) (k := ?_);refine Be dU (k := ?_);have hl2 : (s.used.take (min s.used.length 66)).length = (min s.used.length 66) := by rw [List.length_take]; first | (split <;> omega) | omega
 refine Be (Dv (s.used.take (min s.used.length 66)).length runUnderlying23 (fun w => ⟨_, sizeOf4 w⟩) (hm := z4) (hi := by first | (split <;> omega) | omega)) (k := ?_);refine jQ ?_;refine jQ ?_;refine Be N8 (k := ?_);refine Be dU (k := ?_);have hl3 : (s.free.take (min s.free.length 66)).length = (min s.free.length 66) := by rw [List.length_take]; first | (split <;> omega) | omega
 refine Be (Dv (s.free.take (min s.free.length 66)).length runUnderlying22 (fun w => ⟨_, sizeOf3 w⟩) (hm := z4) (hi := by first | (split <;> omega) | omega)) (k := ?_);refine Be z51 (k := ?_);refine Gs ?_;refine dI ?_;refine hJ ?_;refine Ad results36 (Dd.agg isAgg25 sizeOf25 rfl me rfl Dd.nil) (fun w1 hw1 => ?_);exact ⟨by first | rfl | (simp only [List.length_take]; rfl), hw1.ext_out⟩

theorem AB6 (w : World) {r_Sg_a : Option Addr} {r_Sg_c : Nat} {r_Su_a : Option Addr} {r_Su_c : Nat} {r_Sf_a : Option Addr} {r_Sf_c : Nat} {r_l_a : Option Addr} {r_l_c : Nat} {r_l_t : List TA} {r : Ab} (h_r_Sg : Sl w eI 1 r_Sg_a r.slots.gens) (k_r_Sg : r.slots.gens.length ≤ r_Sg_c) (h_r_Su : Sl w eB 1 r_Su_a r.slots.used) (k_r_Su : r.slots.used.length ≤ r_Su_c) (h_r_Sf : Sl w eI 1 r_Sf_a r.slots.free) (k_r_Sf : r.slots.free.length ≤ r_Sf_c) (h_r_l : Wc w Cn 8 DT r_l_a r.l r_l_t) (k_r_l : r.l.length ≤ r_l_c) : Calls Tryz.prog 15 (List.toArray [(Value.agg [(vs r_Sg_a r.slots.gens.length r_Sg_c), (vs r_Su_a r.slots.used.length r_Su_c), (vs r_Sf_a r.slots.free.length r_Sf_c), (vs r_l_a r.l.length r_l_c), (vi r.seq)].toArray)]) w fun e w2 => ∃ a1 : Option Addr, ∃ c1 : Nat, ∃ t1 : List TA, ∃ B : An, e = .returned (Value.agg [(vs r_Sg_a ((Ac r).slots.gens.length) r_Sg_c), (vs r_Su_a ((Ac r).slots.used.length) r_Su_c), (vs r_Sf_a ((Ac r).slots.free.length) r_Sf_c), (vs a1 ((Ac r).l.length) c1), (vi ((Ac r).seq))].toArray) ∧ Dj w w2 B ∧ (Dh B Cn 8 DT a1 (Ac r).l t1 ∧ (Ac r).l.length ≤ c1) ∧ (Ac r).l.length ≤ 8 := by
 have hF := Is.refl (Ac r);refine enter func15 ntmps15 (h := ?_);refine Z2 ?_;refine Aj Af aW (k := fun r1 p4 => ?_);refine Aj Af Ln (k := fun r2 bv => ?_);refine Jl ?_;refine Yo (σ1 := Nat) (fun fa => ((fa, oc [(vs r_Sg_a ((r.slots.gens.take (min r.slots.gens.length 66)).length) r_Sg_c), (vs r_Su_a ((r.slots.used.take (min r.slots.used.length 66)).length) r_Su_c), (vs r_Sf_a ((r.slots.free.take (min r.slots.free.length 66)).length) r_Sf_c), (vs none 0 0), (vi r.seq)] 28) :: ((r2, oc [(vs none 0 0), (vs none 0 0), (vs none 0 0), (vs none 0 0), (vi 0)] 28) :: ((r1, oc [(vs r_Sg_a r.slots.gens.length r_Sg_c), (vs r_Su_a r.slots.used.length r_Su_c), (vs r_Sf_a r.slots.free.length r_Sf_c), (vs r_l_a r.l.length r_l_c), (vi r.seq)] 28) :: [])))) (fun fa => [(1, (Value.pointer (some ⟨r1, 0, none⟩))), (2, (Value.pointer (some ⟨r2, 0, none⟩))), (3, (Value.pointer (some ⟨fa, 0, none⟩)))]) (fun fa => Is () ()) ?_ ?_
 ·skip;refine Vy (V := []) Cy 7 z5 ?_;refine Dn 0 rfl z5 (Al Zg) (k := ?_);refine Dn 1 rfl z5 (Ck isAgg25 sizeOf25) (k := ?_);refine Dn 3 rfl z5 (Al Mw) (k := ?_);refine Dn 4 rfl z5 zE (k := ?_);refine Bl [2, 6] z5 rfl (List.forall_mem_cons.2 ⟨?_, (List.forall_mem_cons.2 ⟨?_, nofun⟩)⟩)
  ·skip;refine AR6 ?_;refine Bl [6] z5 rfl (List.forall_mem_cons.2 ⟨?_, nofun⟩)
   ·skip;refine Fw rfl Af Ln (k := fun fa a26 => ?_);refine aF z5 _ ?_;refine Mf nE ?_;refine kG ?_;refine Gz ?_;exact Jh fa (Is.refl ()) se (List.Perm.refl _)
  ·skip;refine Fw rfl Af Ln (k := fun fa a26 => ?_);refine Bl [2] z5 rfl (List.forall_mem_cons.2 ⟨?_, nofun⟩)
   ·skip;refine AR6 ?_;refine aF z5 _ ?_;refine Mf nE ?_;refine kG ?_;refine Gz ?_;exact Jh fa (Is.refl ()) se (List.Perm.refl _)
 intro fa hJ1;refine Zz ?_;refine Sc ?_;refine tE (σ1 := Nat) (σ2 := Nat) (σ3 := List Aa) (σ4 := List TA) (σ5 := Option Addr) (σ6 := Nat) (σ7 := An) (σ8 := An) (fun n_4 i_2 x_3 ee cn co ar dd => (ar ++ (dd ++ ((fa, oc [(vs r_Sg_a ((r.slots.gens.take (min r.slots.gens.length 66)).length) r_Sg_c), (vs r_Su_a ((r.slots.used.take (min r.slots.used.length 66)).length) r_Su_c), (vs r_Sf_a ((r.slots.free.take (min r.slots.free.length 66)).length) r_Sf_c), (vs cn x_3.length co), (vi r.seq)] 28) :: ((r2, oc [(vs none 0 0), (vs none 0 0), (vs none 0 0), (vs none 0 0), (vi 0)] 28) :: ((r1, oc [(vs r_Sg_a r.slots.gens.length r_Sg_c), (vs r_Su_a r.slots.used.length r_Su_c), (vs r_Sf_a r.slots.free.length r_Sf_c), (vs r_l_a r.l.length r_l_c), (vi r.seq)] 28) :: [])))))) (fun n_4 i_2 x_3 ee cn co ar dd => [(1, (Value.pointer (some ⟨r1, 0, none⟩))), (2, (Value.pointer (some ⟨r2, 0, none⟩))), (3, (Value.pointer (some ⟨fa, 0, none⟩))), (4, (vi ((i_2 : Nat) : Int)))]) (fun n_4 i_2 x_3 ee cn co ar dd => 8 - i_2 < n_4 ∧ Is (Ve r (8 + 1) 0 []) (Ve r n_4 i_2 x_3) ∧ (Bg Cn 8 52 cn co ar (List.zip x_3 ee) ∧ Bk dd DT x_3 ee) ∧ x_3.length ≤ i_2 ∧ i_2 ≤ 8 ∧ i_2 ≤ r.l.length) (fun n_4 i_2 x_3 ee cn co ar dd => n_4) (8 + 1) 0 ([]) ([]) none 0 ([]) ([]) ?_ se z49 ?_
 ·exact ⟨Nat.lt_succ_self _, Is.refl _, ⟨Bg.nil, Bk.nil⟩, Na, Na, Na⟩
 ·rintro (_ | n_4) i_2 x_3 ee cn co ar dd ⟨hm6, an, ⟨fu, dl⟩, hi7, hi8, hi9⟩
  ·omega
  refine Fj ?_;refine Z5 ?_;refine qE ?_;refine Qb ?_;refine Ar 17 rfl (fun a9 => ?_) (fun a9 => ?_);rotate_left
  ·refine Ag 2 rfl ?_;refine Rt ?_;refine pT ?_;refine Vj ?_;refine fW ?_;refine Ad results15 N2 (fun w1 hw1 => ?_);exact ⟨cn, co, ee, (ar ++ dd), (rq ((hF.rn0 hJ1).rn2 (an.neg a9))), (Bd (L := (ar ++ dd)) (hw1.perm (List.Perm.refl _)) (nA rfl).symm), (by rw [((hF.rn0 hJ1).rn2 (an.neg a9)).eq]; exact ⟨((Bg.nb (U := (ar ++ dd)) Am fu dl (hB := sh) (hR := sh)).mono sh), (by have h0 := fu.le'; rwa [Aw dl.1] at h0)⟩), (by rw [((hF.rn0 hJ1).rn2 (an.neg a9)).eq]; first | exact lb | (simp; done))⟩
  refine qF ?_;refine zF ?_;refine Av rfl (fun b9 => ?_) (fun b9 => ?_);rotate_left
  ·refine Cz ?_;refine Vj ?_;refine fW ?_;refine Ad results15 N2 (fun w1 hw1 => ?_);exact ⟨cn, co, ee, (ar ++ dd), (rq ((hF.rn0 hJ1).rn2 ((an.pos a9).neg b9))), (Bd (L := (ar ++ dd)) (hw1.perm (List.Perm.refl _)) (nA rfl).symm), (by rw [((hF.rn0 hJ1).rn2 ((an.pos a9).neg b9)).eq]; exact ⟨((Bg.nb (U := (ar ++ dd)) Am fu dl (hB := sh) (hR := sh)).mono sh), (by have h0 := fu.le'; rwa [Aw dl.1] at h0)⟩), (by rw [((hF.rn0 hJ1).rn2 ((an.pos a9).neg b9)).eq]; first | exact lb | (simp; done))⟩
  refine gA ?_;refine jV ?_;refine Ah (Cj (n := r.l.length) runUnderlying26 sizeOf52 i_2 (Ff.of_base Eo h_r_l).sl (Ed h_r_l.1 z3) (Aw h_r_l.1)) (k := ?_);have hcp3 := (h_r_l.2.2 i_2 z3).2.2.1;have hcp4 := (h_r_l.2.2 i_2 z3).2.2.2;refine Ah (Du isAgg52 sizeOf52 i_2 (Ff.of_base Eo h_r_l).sl (Ed h_r_l.1 z3)) (k := ?_);refine Aj Af z8 (k := fun ed bd => ?_);refine gH ?_;refine Pl ?_;refine vH ?_;refine vH ?_;refine R6 ?_;refine Ah (Yr (s := ((r.l.getD i_2 default).name)) (min ((r.l.getD i_2 default).name).length 41) runUnderlying9 z4 (hj := by first | (split <;> omega) | (dsimp only; split <;> omega))) (k := ?_);have hsb3 : (((r.l.getD i_2 default).name).take (min ((r.l.getD i_2 default).name).length 41)).length = (min ((r.l.getD i_2 default).name).length 41) := by first | omega | (simp only [List.length_take, List.length_drop, List.length_cons, List.length_nil] <;> omega)
  refine Ah (Al Pg) (k := ?_);refine Gv (Bw (l' := [_, _, _, _, _, _, _, _]) sizeOf9) (k := ?_);refine Pl ?_;refine vF ?_;refine Hd (Ai call37) (fun w1 hw1 => K9 w1 (l := ((r.l.getD i_2 default).rules)) (h_l := (fun w hw => ((Ff.of_base Eo h_r_l).at (m := i_2) z3 w hw).1) w1 hw1) (k_l := z7)) (k := ?_);rintro b90 b11 b96 rh ⟨aw, az, de, vy, wg, ai, a92⟩;refine ⟨_, _, vy, rh.fresh wg, ?_⟩;refine AH3 ?_;refine Pl ?_;refine Ah (Al Mx) (k := ?_);refine Ah (Ca isAgg50) (k := ?_);refine Hd (Ai call38) (fun w1 hw1 => AB1 w1 (l := ((r.l.getD i_2 default).creds)) (h_l := (fun w hw => ((Ff.of_base Eo h_r_l).at (m := i_2) z3 w hw).2.1) w1 hw1)) (k := ?_);rintro b91 b12 b97 ri ⟨ax, ba, df, vz, wh, aj, a93⟩;refine ⟨_, _, vz, ri.fresh wh, ?_⟩;refine Ah (Al Mx) (k := ?_);refine Gv (Bw (l' := [_, _, _, _, _, _, _, _]) sizeOf50) (k := ?_);refine Z0 ?_;refine Ch ?_;refine Z83 ?_;refine nF ?_;refine Aj Af sY (k := fun e54 c85 => ?_);refine Ba (List.zip (x_3 ++ ([(Aa.mk ((r.l.getD i_2 default).handle) (((r.l.getD i_2 default).name).take (min ((r.l.getD i_2 default).name).length 41)) ((r.l.getD i_2 default).state) ((r.l.getD i_2 default).version) (Kf ((r.l.getD i_2 default).rules)) (Tx ((r.l.getD i_2 default).creds)) ((r.l.getD i_2 default).deadline))] : List Aa)) (ee ++ ([⟨aw, az, ax, ba⟩] : List TA))) (List.zip_append dl.1.symm).symm Dy underlying26 Am fu (qb (qd (qd (qb q0)))) (Bg.nj Am (Bg.mk (xs := List.zip ([(Aa.mk ((r.l.getD i_2 default).handle) (((r.l.getD i_2 default).name).take (min ((r.l.getD i_2 default).name).length 41)) ((r.l.getD i_2 default).state) ((r.l.getD i_2 default).version) (Kf ((r.l.getD i_2 default).rules)) (Tx ((r.l.getD i_2 default).creds)) ((r.l.getD i_2 default).deadline))] : List Aa) ([⟨aw, az, ax, ba⟩] : List TA)) rfl rfl Am) (Bk.one (B := (de ++ (df ++ []))) (D := DT) (x := (Aa.mk ((r.l.getD i_2 default).handle) (((r.l.getD i_2 default).name).take (min ((r.l.getD i_2 default).name).length 41)) ((r.l.getD i_2 default).state) ((r.l.getD i_2 default).version) (Kf ((r.l.getD i_2 default).rules)) (Tx ((r.l.getD i_2 default).creds)) ((r.l.getD i_2 default).deadline))) (t := (⟨aw, az, ax, ba⟩ : TA)) (fun w hw => ⟨(ai.sl Bu (Cu hw)), (aj.sl Cq (Cu hw)), ai.le', aj.le'⟩)) (hB := sh) (hR := sh)).sl ⟨by first | exact lb, by first | exact lb⟩ (n := x_3.length) (m := 1) (hn := (Aw dl.1)) (hm := (Aw (Bk.one (B := (de ++ (df ++ []))) (D := DT) (x := (Aa.mk ((r.l.getD i_2 default).handle) (((r.l.getD i_2 default).name).take (min ((r.l.getD i_2 default).name).length 41)) ((r.l.getD i_2 default).state) ((r.l.getD i_2 default).version) (Kf ((r.l.getD i_2 default).rules)) (Tx ((r.l.getD i_2 default).creds)) ((r.l.getD i_2 default).deadline))) (t := (⟨aw, az, ax, ba⟩ : TA)) (fun w hw => ⟨(ai.sl Bu (Cu hw)), (aj.sl Cq (Cu hw)), ai.le', aj.le'⟩)).1)) (k := fun ax181 cx181 nc ep => ?_);have hzl181 : (List.zip (x_3 ++ ([(Aa.mk ((r.l.getD i_2 default).handle) (((r.l.getD i_2 default).name).take (min ((r.l.getD i_2 default).name).length 41)) ((r.l.getD i_2 default).state) ((r.l.getD i_2 default).version) (Kf ((r.l.getD i_2 default).rules)) (Tx ((r.l.getD i_2 default).creds)) ((r.l.getD i_2 default).deadline))] : List Aa)) (ee ++ ([⟨aw, az, ax, ba⟩] : List TA))).length = (x_3 ++ ([(Aa.mk ((r.l.getD i_2 default).handle) (((r.l.getD i_2 default).name).take (min ((r.l.getD i_2 default).name).length 41)) ((r.l.getD i_2 default).state) ((r.l.getD i_2 default).version) (Kf ((r.l.getD i_2 default).rules)) (Tx ((r.l.getD i_2 default).creds)) ((r.l.getD i_2 default).deadline))] : List Aa)).length := Aw (by rw [List.length_append, List.length_append, dl.1, (Bk.one (B := (de ++ (df ++ []))) (D := DT) (x := (Aa.mk ((r.l.getD i_2 default).handle) (((r.l.getD i_2 default).name).take (min ((r.l.getD i_2 default).name).length 41)) ((r.l.getD i_2 default).state) ((r.l.getD i_2 default).version) (Kf ((r.l.getD i_2 default).rules)) (Tx ((r.l.getD i_2 default).creds)) ((r.l.getD i_2 default).deadline))) (t := (⟨aw, az, ax, ba⟩ : TA)) (fun w hw => ⟨(ai.sl Bu (Cu hw)), (aj.sl Cq (Cu hw)), ai.le', aj.le'⟩)).1]);rw [hzl181];have hal181 : (x_3 ++ ([(Aa.mk ((r.l.getD i_2 default).handle) (((r.l.getD i_2 default).name).take (min ((r.l.getD i_2 default).name).length 41)) ((r.l.getD i_2 default).state) ((r.l.getD i_2 default).version) (Kf ((r.l.getD i_2 default).rules)) (Tx ((r.l.getD i_2 default).creds)) ((r.l.getD i_2 default).deadline))] : List Aa)).length = x_3.length + 1 := List.length_append;have hdp5 : Bk (dd ++ (de ++ (df ++ []))) DT (x_3 ++ ([(Aa.mk ((r.l.getD i_2 default).handle) (((r.l.getD i_2 default).name).take (min ((r.l.getD i_2 default).name).length 41)) ((r.l.getD i_2 default).state) ((r.l.getD i_2 default).version) (Kf ((r.l.getD i_2 default).rules)) (Tx ((r.l.getD i_2 default).creds)) ((r.l.getD i_2 default).deadline))] : List Aa)) (ee ++ ([⟨aw, az, ax, ba⟩] : List TA)) := Bk.append (dl.mono sh) ((Bk.one (B := (de ++ (df ++ []))) (D := DT) (x := (Aa.mk ((r.l.getD i_2 default).handle) (((r.l.getD i_2 default).name).take (min ((r.l.getD i_2 default).name).length 41)) ((r.l.getD i_2 default).state) ((r.l.getD i_2 default).version) (Kf ((r.l.getD i_2 default).rules)) (Tx ((r.l.getD i_2 default).creds)) ((r.l.getD i_2 default).deadline))) (t := (⟨aw, az, ax, ba⟩ : TA)) (fun w hw => ⟨(ai.sl Bu (Cu hw)), (aj.sl Cq (Cu hw)), ai.le', aj.le'⟩)).mono sh);refine Ah (Al Iw) (k := ?_);refine T8 ?_;refine Gz ?_;refine Vw ?_;refine Ev _ (sa (sd (sa (sa (sd (sa (sk (sk (sk sz))))))))) ?_;refine Ch ?_;refine qD ?_;refine Ce _ (((((((qc (qc (qc (qc (qa (qa q0)))))).trans (qa (qc (qc (qc (qc (qa q0))))))).trans (qa (qa (qc (qc (qc (qc q0))))))).trans (qb (qb (qb (qd q0))))).trans (qd (qb (qb (qb (qd q0)))))).trans (qd (qd (qb (qb (qb (qd q0))))))).trans (qd (qd (qd (qb (qb (qb q0))))))) ?_;exact tF n_4 (i_2 + 1) (x_3 ++ ([(Aa.mk ((r.l.getD i_2 default).handle) (((r.l.getD i_2 default).name).take (min ((r.l.getD i_2 default).name).length 41)) ((r.l.getD i_2 default).state) ((r.l.getD i_2 default).version) (Kf ((r.l.getD i_2 default).rules)) (Tx ((r.l.getD i_2 default).creds)) ((r.l.getD i_2 default).deadline))] : List Aa)) (ee ++ ([⟨aw, az, ax, ba⟩] : List TA)) ax181 cx181 nc (dd ++ (de ++ df)) ⟨by omega, ((an.pos a9).pos b9), ⟨ep, (hdp5.mono sh)⟩, z4, z4, z4⟩ (Nat.lt_succ_self _) se z49

end Go.Proofs.YtopjaeoklkpcpaaGreatDoor.Jd

