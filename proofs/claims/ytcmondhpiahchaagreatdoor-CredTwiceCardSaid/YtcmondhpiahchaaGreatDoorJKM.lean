/- Part of the proofs of this seat: walks and plain facts. No condition. -/
import Derived.Test.YtcmondhpiahchaaGreatDoorJMM
namespace Go.Proofs.YtcmondhpiahchaaGreatDoor.Jd
open Go.Proofs
open Go.RowKit (Below)
set_option maxRecDepth 100000
set_option linter.unusedVariables false
set_option linter.unusedSimpArgs false
structure Cred where
  id : Int
  key : Str
  frm : Int
  to : Int
instance : Inhabited Cred := ⟨⟨default, default, default, default⟩⟩
instance : DecidableEq Cred := fun a b => decidable_of_iff (a.id = b.id ∧ a.key = b.key ∧ a.frm = b.frm ∧ a.to = b.to) ⟨fun h => by cases a; cases b; simp_all, fun h => by subst h; simp⟩
def cIsIn (n_ : Int) (least : Int) (most : Int) : Bool := (if least ≤ n_ then decide (n_ ≤ most) else false)
def cIsId (c : Cred) : Bool := (cIsIn c.id 1 1000000000)
def cIsKey (c : Cred) : Bool := (mRight c.key)
def cIsSpan (c : Cred) : Bool := (if 0 ≤ c.frm then (if c.frm < c.to then decide (c.to ≤ 1000000000000) else false) else false)
def cHolds (c : Cred) (now : Int) : Bool := (if c.frm ≤ now then decide (now < c.to) else false)
def cRight_l1 (l : List Cred) (x_1 : Nat) (last_2 : Int) (x_3 : List Int) : Nat → Nat → Except Bool Nat
  | 0, x_8 => .ok (x_8)
  | n_9 + 1, x_8 => (if ((x_8 : Nat) : Int) < ((l.length : Nat) : Int) then (if (!(cIsId (l.getD x_8 default))) = true then .error false else (if (!(cIsKey (l.getD x_8 default))) = true then .error false else (if (!(cIsSpan (l.getD x_8 default))) = true then .error false else (cRight_l1 l x_1 last_2 x_3 n_9 (x_8 + 1))))) else .ok (x_8))
def cRight_l0 (l : List Cred) : Nat → Nat → Int → List Int → Except Bool (Nat × Int × (List Int))
  | 0, x_1, last_2, x_3 => .ok (x_1, last_2, x_3)
  | n_4 + 1, x_1, last_2, x_3 => (if ((x_1 : Nat) : Int) < ((l.length : Nat) : Int) then (if ((l.getD x_1 default).id) ∈ x_3 then .error false else (if ((l.getD x_1 default).id) < last_2 then .error false else (cRight_l0 l n_4 (x_1 + 1) ((l.getD x_1 default).id) (x_3 ++ [((l.getD x_1 default).id)])))) else .ok (x_1, last_2, x_3))
def cRight (l : List Cred) : Bool := (outc3 (cRight_l0 l (l.length + 1) 0 0 ([] : List Int)) (fun r => r) (fun x_1 last_2 x_3 => (if ((l.length : Nat) : Int) ≤ 4 then (outc1 (cRight_l1 l x_1 last_2 x_3 (l.length + 1) 0) (fun r => r) (fun x_8 => true)) else false)))
def cHolding_l0 (l : List Cred) (now : Int) : Nat → Nat → List Cred → Nat × (List Cred)
  | 0, x_1, x_2 => (x_1, x_2)
  | n_3 + 1, x_1, x_2 => (if ((x_1 : Nat) : Int) < ((l.length : Nat) : Int) then (if (cHolds (l.getD x_1 default) now) = true then (cHolding_l0 l now n_3 (x_1 + 1) (x_2 ++ ([(l.getD x_1 default)] : List Cred))) else (cHolding_l0 l now n_3 (x_1 + 1) x_2)) else (x_1, x_2))
def cHolding (l : List Cred) (now : Int) : List Cred := (if (!(cRight l)) = true then [] else (run2 (cHolding_l0 l now (l.length + 1) 0 []) (fun x_1 x_2 => x_2)))
def cCheck_l0 (l : List Cred) (now : Int) (challenge : Str) (name : Str) (proof : Str) : Nat → Nat → Except (Int × Bool) Nat
  | 0, x_1 => .ok (x_1)
  | n_2 + 1, x_1 => (if ((x_1 : Nat) : Int) < ((((cHolding l now).length) : Nat) : Int) then (if ¬ ((((cHolding l now).getD x_1 default).id) = 0 ∧ (((cHolding l now).getD x_1 default).key) = ([] : Str) ∧ (((cHolding l now).getD x_1 default).frm) = 0 ∧ (((cHolding l now).getD x_1 default).to) = 0) then (if ((mAns (((cHolding l now).getD x_1 default).key) challenge name).2) = 0 then (if (mSame ((mAns (((cHolding l now).getD x_1 default).key) challenge name).1) proof) = true then .error ((((cHolding l now).getD x_1 default).id), true) else (cCheck_l0 l now challenge name proof n_2 (x_1 + 1))) else (cCheck_l0 l now challenge name proof n_2 (x_1 + 1))) else (cCheck_l0 l now challenge name proof n_2 (x_1 + 1))) else .ok (x_1))
def cCheck (l : List Cred) (now : Int) (challenge : Str) (name : Str) (proof : Str) : Int × Bool := (outc1 (cCheck_l0 l now challenge name proof (((cHolding l now).length) + 1) 0) (fun r => r) (fun x_1 => (0, false)))
def cRot_l0 (l : List Cred) (key : Str) (now : Int) (overlap : Int) (span : Int) : Nat → Nat → List Cred → Int → Nat × (List Cred) × Int
  | 0, x_1, out_2, x_3 => (x_1, out_2, x_3)
  | n_4 + 1, x_1, out_2, x_3 => (if ((x_1 : Nat) : Int) < ((l.length : Nat) : Int) then (if ((l.getD x_1 default).to) ≤ now then (cRot_l0 l key now overlap span n_4 (x_1 + 1) out_2 (((l.getD x_1 default).id) + 1)) else (if ((l.getD x_1 default).frm) < (if (now + overlap) < ((l.getD x_1 default).to) then (now + overlap) else ((l.getD x_1 default).to)) then (cRot_l0 l key now overlap span n_4 (x_1 + 1) (out_2 ++ ([(Cred.mk ((l.getD x_1 default).id) ((l.getD x_1 default).key) ((l.getD x_1 default).frm) (if (now + overlap) < ((l.getD x_1 default).to) then (now + overlap) else ((l.getD x_1 default).to)))] : List Cred)) (((l.getD x_1 default).id) + 1)) else (cRot_l0 l key now overlap span n_4 (x_1 + 1) out_2 (((l.getD x_1 default).id) + 1)))) else (x_1, out_2, x_3))
def cRot (l : List Cred) (key : Str) (now : Int) (overlap : Int) (span : Int) : (List Cred) × Int × Int := (if (!(cRight l)) = true then ([], 0, 110) else (if (!(mRight key)) = true then ([], 0, 50) else (if (!(cIsIn now 0 1000000000000)) = true then ([], 0, 2) else (if (!(cIsIn overlap 0 1000000000)) = true then ([], 0, 2) else (if (!(cIsIn span 1 1000000000)) = true then ([], 0, 2) else (if 1000000000000 < (now + span) then ([], 0, 2) else (run3 (cRot_l0 l key now overlap span (l.length + 1) 0 [] 1) (fun x_1 out_2 x_3 => (if 4 < ((((out_2 ++ ([(Cred.mk x_3 key now (now + span))] : List Cred)).length) : Nat) : Int) then ([], 0, 92) else (if 1000000000 < x_3 then ([], 0, 92) else ((out_2 ++ ([(Cred.mk x_3 key now (now + span))] : List Cred)), x_3, 0)))))))))))
def cEnd_l0 (l : List Cred) (id : Int) (now : Int) : Nat → Nat → List Cred → Bool → Nat × (List Cred) × Bool
  | 0, x_1, out_2, x_3 => (x_1, out_2, x_3)
  | n_4 + 1, x_1, out_2, x_3 => (if ((x_1 : Nat) : Int) < ((l.length : Nat) : Int) then (if ((l.getD x_1 default).id) = id then (if (cHolds (l.getD x_1 default) now) = true then (if ((l.getD x_1 default).frm) < now then (cEnd_l0 l id now n_4 (x_1 + 1) (out_2 ++ ([(Cred.mk ((l.getD x_1 default).id) ((l.getD x_1 default).key) ((l.getD x_1 default).frm) now)] : List Cred)) true) else (cEnd_l0 l id now n_4 (x_1 + 1) out_2 true)) else (if ((l.getD x_1 default).frm) < ((l.getD x_1 default).to) then (cEnd_l0 l id now n_4 (x_1 + 1) (out_2 ++ ([(l.getD x_1 default)] : List Cred)) x_3) else (cEnd_l0 l id now n_4 (x_1 + 1) out_2 x_3))) else (if ((l.getD x_1 default).frm) < ((l.getD x_1 default).to) then (cEnd_l0 l id now n_4 (x_1 + 1) (out_2 ++ ([(l.getD x_1 default)] : List Cred)) x_3) else (cEnd_l0 l id now n_4 (x_1 + 1) out_2 x_3))) else (x_1, out_2, x_3))
def cEnd (l : List Cred) (id : Int) (now : Int) : (List Cred) × Int := (if (!(cRight l)) = true then ([], 110) else (if (!(cIsIn now 0 1000000000000)) = true then ([], 2) else (run3 (cEnd_l0 l id now (l.length + 1) 0 [] false) (fun x_1 out_2 x_3 => (if (!x_3) = true then ([], 2) else (out_2, 0))))))
end Go.Proofs.YtcmondhpiahchaaGreatDoor.Jd
