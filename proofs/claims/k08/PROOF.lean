import PyProof.Rows.All
import Wide.All
import OpenK.AllK
import Wide.FinOn
import KE.KStateDown
import Lean
import HandS.Head0
import HandS.Head1
import HandS.Head2
import HandS.Head3
import HandS.HeadEnd
import HandS.HeadHook1
import HandS.HeadHook2
import HandS.HeadHook3
import HandS.HeadHook4
import HandS.ForMost
import HandS.Gcd
import HandS.Wide
import HandS.WideBits
import HandS.IsInst
import HandS.Style
import HandS.Defaults
import PyProof.ReprRoads
import KE.KMathG
import Flt.RightSqrt
import PySem.Challenge.RW_planehall_k08_whole_sides_of_places
set_option Elab.async false
section
set_option Elab.async false
set_option linter.all false
set_option maxRecDepth 100000
set_option maxHeartbeats 0
/-! the head -/
namespace Pl
open PySem PySem.Spec PyProof.Rows L2
def topS (i : Nat) : Stmt := PySem.Challenge.pw_planehall_k08_whole_sides_of_places.main.body.getD i (.Pass ⟨0, 0, 0, 0⟩)
abbrev sis_whole : Stmt := topS 2
abbrev sis_truth : Stmt := topS 3
abbrev sare_wholes : Stmt := topS 4
abbrev sis_ratio : Stmt := topS 9
abbrev sratio : Stmt := topS 10
abbrev splus : Stmt := topS 11
abbrev sminus : Stmt := topS 12
abbrev stimes : Stmt := topS 13
abbrev ssign_of : Stmt := topS 14
abbrev sis_square : Stmt := topS 16
abbrev sis_rooted : Stmt := topS 17
abbrev sis_numbered : Stmt := topS 18
abbrev sparts_of : Stmt := topS 19
abbrev ssign_one : Stmt := topS 20
abbrev sdo_lie_in_one : Stmt := topS 21
abbrev sin_one : Stmt := topS 22
abbrev sis_placed : Stmt := topS 24
abbrev sis_curved : Stmt := topS 25
abbrev sis_line : Stmt := topS 26
abbrev ssign_by : Stmt := topS 27
abbrev scheck_place : Stmt := topS 33
abbrev scheck_curve : Stmt := topS 34
abbrev sis_place : Stmt := topS 36
abbrev ssign_at : Stmt := topS 37
abbrev s_law_well : Stmt := topS 39
abbrev s_law_draw : Stmt := topS 40
abbrev s_law_pick : Stmt := topS 41
abbrev s_law_common : Stmt := topS 42
abbrev s_law_lean : Stmt := topS 43
abbrev s_law_add : Stmt := topS 44
abbrev s_law_mul : Stmt := topS 45
abbrev s_law_neg : Stmt := topS 46
abbrev s_law_root : Stmt := topS 47
abbrev s_law_is_square : Stmt := topS 48
abbrev s_law_sign : Stmt := topS 49
abbrev s_law_sign_one : Stmt := topS 50
abbrev s_law_spread : Stmt := topS 51
abbrev s_law_formed : Stmt := topS 52
abbrev s_law_both : Stmt := topS 53
abbrev s_law_seat : Stmt := topS 54
abbrev s_law_place : Stmt := topS 55
abbrev s_law_bar : Stmt := topS 56
abbrev s_law_ring : Stmt := topS 57
abbrev s_law_form : Stmt := topS 58
abbrev s_law_side : Stmt := topS 59
abbrev s_law_chord : Stmt := topS 60
abbrev s_law_meet : Stmt := topS 61
abbrev s_law_small : Stmt := topS 62
abbrev s_law_point : Stmt := topS 63
abbrev s_law_size : Stmt := topS 64
abbrev s_law_disc : Stmt := topS 65
abbrev s_law_line : Stmt := topS 66
abbrev s_law_beside : Stmt := topS 67
abbrev s_law_through : Stmt := topS 68
abbrev s_law_curve : Stmt := topS 69
abbrev s_law_seat_drawn : Stmt := topS 70
abbrev s_law_right : Stmt := topS 71
abbrev slaw : Stmt := topS 72
def defs : List (Str × Stmt) := [(("is_whole" : Str), sis_whole), (("is_truth" : Str), sis_truth), (("are_wholes" : Str), sare_wholes), (("is_ratio" : Str), sis_ratio), (("ratio" : Str), sratio), (("plus" : Str), splus), (("minus" : Str), sminus), (("times" : Str), stimes), (("sign_of" : Str), ssign_of), (("is_square" : Str), sis_square), (("is_rooted" : Str), sis_rooted), (("is_numbered" : Str), sis_numbered), (("parts_of" : Str), sparts_of), (("sign_one" : Str), ssign_one), (("do_lie_in_one" : Str), sdo_lie_in_one), (("in_one" : Str), sin_one), (("is_placed" : Str), sis_placed), (("is_curved" : Str), sis_curved), (("is_line" : Str), sis_line), (("sign_by" : Str), ssign_by), (("check_place" : Str), scheck_place), (("check_curve" : Str), scheck_curve), (("is_place" : Str), sis_place), (("sign_at" : Str), ssign_at), (("_law_well" : Str), s_law_well), (("_law_draw" : Str), s_law_draw), (("_law_pick" : Str), s_law_pick), (("_law_common" : Str), s_law_common), (("_law_lean" : Str), s_law_lean), (("_law_add" : Str), s_law_add), (("_law_mul" : Str), s_law_mul), (("_law_neg" : Str), s_law_neg), (("_law_root" : Str), s_law_root), (("_law_is_square" : Str), s_law_is_square), (("_law_sign" : Str), s_law_sign), (("_law_sign_one" : Str), s_law_sign_one), (("_law_spread" : Str), s_law_spread), (("_law_formed" : Str), s_law_formed), (("_law_both" : Str), s_law_both), (("_law_seat" : Str), s_law_seat), (("_law_place" : Str), s_law_place), (("_law_bar" : Str), s_law_bar), (("_law_ring" : Str), s_law_ring), (("_law_form" : Str), s_law_form), (("_law_side" : Str), s_law_side), (("_law_chord" : Str), s_law_chord), (("_law_meet" : Str), s_law_meet), (("_law_small" : Str), s_law_small), (("_law_point" : Str), s_law_point), (("_law_size" : Str), s_law_size), (("_law_disc" : Str), s_law_disc), (("_law_line" : Str), s_law_line), (("_law_beside" : Str), s_law_beside), (("_law_through" : Str), s_law_through), (("_law_curve" : Str), s_law_curve), (("_law_seat_drawn" : Str), s_law_seat_drawn), (("_law_right" : Str), s_law_right), (("law" : Str), slaw)]
def frees : List Str := ["isinstance", "int", "bool", "tuple", "str", "len", "all", "abs", "divmod", "range", "max", "min", "list", "repr"]
def fnL : List He.DefD := defs.map fun q => ⟨(q.1, none), q.1, q.1, defArgs q.2, defBody q.2, defScope q.2, [], []⟩
def faL : List He.Fa := defs.map (fun q => .glo q.1) ++ (frees.map .free ++ [.glo "ZERO", .glo "ONE", .glo "TWO"])
def bltB (K : PySem.W.Frag) (x : Str) (id : String) : Bool := He.eqO (PySem.W.nsIn K mainGlobals x) (some (some (.builtin id)))
def exL (K : PySem.W.Frag) : Bool := He.tupB K "ZERO" [.int 0, .int 1] && (He.tupB K "ONE" [.int 1, .int 1] && (He.tupB K "TWO" [.int 2, .int 1] && (bltB K "gcd" "math.gcd" && bltB K "isqrt" "math.isqrt")))
abbrev R : PySem.W.OpenRow := PySem.W.OpenLaw.row PySem.Challenge.rw_planehall_k08_whole_sides_of_places
abbrev hk : PySem.W.Hook := He.hookX 4 faL fnL [] [] exL
def ob (s : PySem.W.SharedT) : He.AlX := He.obsX 4 faL fnL [] [] exL (HandSHeadRun.getT s)
theorem ob_eq (s : PySem.W.SharedT) : ob s = hk.obs s.abs := He.obsX_eq (HandSHeadRun.getT_eq s)
def names1 : List Str := [PySem.Str.ofString "is_whole", PySem.Str.ofString "is_truth", PySem.Str.ofString "are_wholes", PySem.Str.ofString "ZERO", PySem.Str.ofString "ONE", PySem.Str.ofString "TWO", PySem.Str.ofString "is_ratio", PySem.Str.ofString "ratio", PySem.Str.ofString "plus", PySem.Str.ofString "minus", PySem.Str.ofString "times", PySem.Str.ofString "sign_of", PySem.Str.ofString "is_square", PySem.Str.ofString "is_rooted", PySem.Str.ofString "is_numbered", PySem.Str.ofString "parts_of", PySem.Str.ofString "sign_one", PySem.Str.ofString "do_lie_in_one", PySem.Str.ofString "in_one", PySem.Str.ofString "is_placed", PySem.Str.ofString "is_curved", PySem.Str.ofString "is_line", PySem.Str.ofString "sign_by", PySem.Str.ofString "PlaneError", PySem.Str.ofString "InvalidPlace", PySem.Str.ofString "InvalidCurve", PySem.Str.ofString "check_place", PySem.Str.ofString "check_curve", PySem.Str.ofString "is_place", PySem.Str.ofString "sign_at"]
def names2 : List Str := [PySem.Str.ofString "_law_well", PySem.Str.ofString "_law_draw", PySem.Str.ofString "_law_pick", PySem.Str.ofString "_law_common", PySem.Str.ofString "_law_lean", PySem.Str.ofString "_law_add", PySem.Str.ofString "_law_mul", PySem.Str.ofString "_law_neg", PySem.Str.ofString "_law_root", PySem.Str.ofString "_law_is_square", PySem.Str.ofString "_law_sign", PySem.Str.ofString "_law_sign_one", PySem.Str.ofString "_law_spread", PySem.Str.ofString "_law_formed", PySem.Str.ofString "_law_both", PySem.Str.ofString "_law_seat", PySem.Str.ofString "_law_place", PySem.Str.ofString "_law_bar", PySem.Str.ofString "_law_ring", PySem.Str.ofString "_law_form", PySem.Str.ofString "_law_side", PySem.Str.ofString "_law_chord", PySem.Str.ofString "_law_meet", PySem.Str.ofString "_law_small", PySem.Str.ofString "_law_point", PySem.Str.ofString "_law_size", PySem.Str.ofString "_law_disc", PySem.Str.ofString "_law_line", PySem.Str.ofString "_law_beside", PySem.Str.ofString "_law_through", PySem.Str.ofString "_law_curve", PySem.Str.ofString "_law_seat_drawn", PySem.Str.ofString "_law_right"]
def names : List Str := names1 ++ names2
theorem run (w : World) : HandSHeadRun.RunEqI R (PySem.W.view R.prog [0, 72]) hk ob 6000 names w := by
  unfold HandSHeadRun.RunEqI
  kernel_rfl
end Pl
end
section
set_option Elab.async false
set_option linter.all false
set_option maxRecDepth 100000
set_option autoImplicit false
/-! what expressions and statements over plain data (ints, bools, texts, tuples), some lists of one's own and some wells evaluate to -/
namespace Pl
open PySem PySem.Spec PyProof.Rows L2

/-! ### data -/
mutual
inductive Rp (K : PySem.W.Frag) (H : Hp) : V → PyData → Prop
  | non : Rp K H .non .none
  | bl (b : Bool) : Rp K H (.bl b) (.bool b)
  | int (i : Int) : Rp K H (.int i) (.int i)
  | str (x : Str) : Rp K H (.str x) (.str x)
  | tup {a : Addr} {xs : List V} {ds : List PyData} : SqT K H a xs → RpAll K H xs ds → Rp K H (.ref a) (.tuple ds)
inductive RpAll (K : PySem.W.Frag) (H : Hp) : List V → List PyData → Prop
  | nil : RpAll K H [] []
  | cons {v : V} {vs : List V} {d : PyData} {ds : List PyData} : Rp K H v d → RpAll K H vs ds → RpAll K H (v :: vs) (d :: ds)
end
mutual
theorem Rp.dp {K : PySem.W.Frag} {H : Hp} : ∀ {v : V} {d : PyData}, Rp K H v d → Dp K H v d
  | _, _, .non => .non
  | _, _, .bl b => .bl b
  | _, _, .int i => .int i
  | _, _, .str x => .str x
  | _, _, .tup h r => .tup h (RpAll.dp r)
theorem RpAll.dp {K : PySem.W.Frag} {H : Hp} : ∀ {v : List V} {d : List PyData}, RpAll K H v d → DpAll K H v d
  | _, _, .nil => .nil
  | _, _, .cons h r => .cons (Rp.dp h) (RpAll.dp r)
end
/-- the tuples that may be read stay -/
def TK (K : PySem.W.Frag) (H H' : Hp) : Prop := ∀ a xs, SqT K H a xs → SqT K H' a xs
mutual
theorem Rp.mono {K : PySem.W.Frag} {H H' : Hp} (k : TK K H H') : ∀ {v : V} {d : PyData}, Rp K H v d → Rp K H' v d
  | _, _, .non => .non
  | _, _, .bl b => .bl b
  | _, _, .int i => .int i
  | _, _, .str x => .str x
  | _, _, .tup h r => .tup (k _ _ h) (RpAll.mono k r)
theorem RpAll.mono {K : PySem.W.Frag} {H H' : Hp} (k : TK K H H') : ∀ {v : List V} {d : List PyData}, RpAll K H v d → RpAll K H' v d
  | _, _, .nil => .nil
  | _, _, .cons h r => .cons (Rp.mono k h) (RpAll.mono k r)
end
theorem RpAll.length {K : PySem.W.Frag} {H : Hp} : ∀ {v : List V} {d : List PyData}, RpAll K H v d → v.length = d.length
  | _, _, .nil => rfl
  | _, _, .cons _ r => congrArg (· + 1) r.length
theorem RpAll.get {K : PySem.W.Frag} {H : Hp} : ∀ {vs : List V} {ds : List PyData} {i : Nat} {d : PyData}, RpAll K H vs ds → ds[i]? = some d → ∃ v, vs[i]? = some v ∧ Rp K H v d
  | _, _, i, _, .nil, e => by simp at e
  | _, _, 0, _, .cons h _, e => ⟨_, rfl, by cases Option.some.inj e; exact h⟩
  | _, _, i + 1, d, .cons _ r, e => by
    obtain ⟨v, h1, h2⟩ := RpAll.get (i := i) (d := d) r (by simpa using e)
    exact ⟨v, by simpa using h1, h2⟩
theorem RpAll.getV {K : PySem.W.Frag} {H : Hp} : ∀ {vs : List V} {ds : List PyData} {i : Nat} {v : V}, RpAll K H vs ds → vs[i]? = some v → ∃ d, ds[i]? = some d ∧ Rp K H v d
  | _, _, i, _, .nil, e => by simp at e
  | _, _, 0, _, .cons h _, e => ⟨_, rfl, by cases Option.some.inj e; exact h⟩
  | _, _, i + 1, d, .cons _ r, e => by
    obtain ⟨v, h1, h2⟩ := RpAll.getV (i := i) (v := d) r (by simpa using e)
    exact ⟨v, by simpa using h1, h2⟩
theorem RpAll.append {K : PySem.W.Frag} {H : Hp} : ∀ {vs ws : List V} {ds es : List PyData}, RpAll K H vs ds → RpAll K H ws es → RpAll K H (vs ++ ws) (ds ++ es)
  | _, _, _, _, .nil, s => s
  | _, _, _, _, .cons h r, s => .cons h (RpAll.append r s)
theorem RpAll.take {K : PySem.W.Frag} {H : Hp} : ∀ {vs : List V} {ds : List PyData} (n : Nat), RpAll K H vs ds → RpAll K H (vs.take n) (ds.take n)
  | _, _, 0, _ => .nil
  | _, _, _ + 1, .nil => .nil
  | _, _, n + 1, .cons h r => .cons h (RpAll.take n r)
theorem RpAll.drop {K : PySem.W.Frag} {H : Hp} : ∀ {vs : List V} {ds : List PyData} (n : Nat), RpAll K H vs ds → RpAll K H (vs.drop n) (ds.drop n)
  | _, _, 0, r => r
  | _, _, _ + 1, .nil => .nil
  | _, _, n + 1, .cons _ r => RpAll.drop n r
theorem RpAll.reverse {K : PySem.W.Frag} {H : Hp} : ∀ {vs : List V} {ds : List PyData}, RpAll K H vs ds → RpAll K H vs.reverse ds.reverse
  | _, _, .nil => .nil
  | _, _, .cons h r => by
    rw [List.reverse_cons, List.reverse_cons]
    exact RpAll.append r.reverse (.cons h .nil)

/-! ### heaps -/
/-- all but what stands at As is kept -/
def KeepA (As : List Addr) (H H' : Hp) : Prop := ∀ b o, b ∉ As → H b = some o → H' b = some o
theorem KeepA.refl {As : List Addr} {H : Hp} : KeepA As H H := fun _ _ _ e => e
theorem KeepA.trans {As : List Addr} {H H1 H2 : Hp} (a : KeepA As H H1) (b : KeepA As H1 H2) : KeepA As H H2 := fun c o n e => b c o n (a c o n e)
theorem KeepA.mono {As Bs : List Addr} {H H1 : Hp} (a : KeepA As H H1) (h : ∀ x, x ∈ As → x ∈ Bs) : KeepA Bs H H1 := fun c o n e => a c o (fun z => n (h _ z)) e
theorem KeepA.new {As : List Addr} {H : Hp} {p : Addr} {o : HO} (h : H p = none) : KeepA As H (upd H p o) := fun b x _ e => by
  rw [upd_ne (ne_of_none e h)]
  exact e
theorem KeepA.none_back {As : List Addr} {H H' : Hp} (k : KeepA As H H') {p : Addr} (hp : p ∉ As) (h : H' p = none) : H p = none := by
  cases q : H p with
  | none => rfl
  | some o =>
    rw [k p o hp q] at h
    cases h

inductive Cell where
  | well
  | lst (ds : List PyData)
  | own (ds : List PyData)
structure Bx where
  K : PySem.W.Frag
  As : List Addr
  H0 : Hp
abbrev Th := List (Addr × Cell)
def WellAt (H : Hp) (a : Addr) : Prop := ∃ i j k : Int, H a = some (.lst [.int i, .int j, .int k])
def CellOk (B : Bx) (H : Hp) (a : Addr) : Cell → Prop
  | .well => WellAt H a
  | .lst ds => ∃ xs, H a = some (.lst xs) ∧ RpAll B.K H xs ds
  | .own ds => B.H0 a = none ∧ ∃ xs, H a = some (.lst xs) ∧ RpAll B.K H xs ds
theorem CellOk.lst' {B : Bx} {H : Hp} {a : Addr} {c : Cell} (h : CellOk B H a c) : ∃ xs, H a = some (.lst xs) := by
  cases c with
  | well => obtain ⟨i, j, k, e⟩ := h; exact ⟨_, e⟩
  | lst ds => obtain ⟨xs, e, _⟩ := h; exact ⟨_, e⟩
  | own ds => obtain ⟨_, xs, e, _⟩ := h; exact ⟨_, e⟩
structure TOk (B : Bx) (T : Th) (H : Hp) : Prop where
  nd : (T.map (·.1)).Nodup
  cells : ∀ q ∈ T, CellOk B H q.1 q.2
  as : ∀ a ∈ B.As, (a, Cell.well) ∈ T
  keep : KeepA B.As B.H0 H
/-- what a slot holds -/
inductive Sl where
  | no
  | dat (d : PyData)
  | ref (a : Addr)
  | new (ds : List PyData)
  | ty (n : String)
def RpV (B : Bx) (T : Th) (H : Hp) (v : V) : Sl → Prop
  | .no => True
  | .dat d => Rp B.K H v d
  | .ref a => v = .ref a
  | .ty n => v = .ty n
  | .new ds => ∃ a xs, v = .ref a ∧ a ∉ T.map (·.1) ∧ B.H0 a = none ∧ H a = some (.lst xs) ∧ RpAll B.K H xs ds
theorem rvI {B : Bx} {T : Th} {H : Hp} (i : Int) : RpV B T H (.int i) (.dat (.int i)) := Rp.int i
theorem rvS {B : Bx} {T : Th} {H : Hp} (i : Str) : RpV B T H (.str i) (.dat (.str i)) := Rp.str i
theorem rvB {B : Bx} {T : Th} {H : Hp} (i : Bool) : RpV B T H (.bl i) (.dat (.bool i)) := Rp.bl i
theorem rvD {B : Bx} {T : Th} {H : Hp} {v : V} {d : PyData} (h : Rp B.K H v d) : RpV B T H v (.dat d) := h
theorem rvN {B : Bx} {T : Th} {H : Hp} {a : Addr} {xs : List V} {ds : List PyData} (n1 : a ∉ T.map (·.1)) (n2 : B.H0 a = none) (h : H a = some (.lst xs)) (r : RpAll B.K H xs ds) : RpV B T H (.ref a) (.new ds) := ⟨a, xs, rfl, n1, n2, h, r⟩
inductive RpVs (B : Bx) (T : Th) (H : Hp) : List V → List Sl → Prop
  | nil : RpVs B T H [] []
  | cons {v : V} {vs : List V} {s : Sl} {ss : List Sl} : RpV B T H v s → RpVs B T H vs ss → RpVs B T H (v :: vs) (s :: ss)
structure RS (B : Bx) (H : Hp) (σ : L2.St) (Γ : List Sl) : Prop where
  len : σ.length = Γ.length
  dat : ∀ (i : Nat) (d : PyData), Γ[i]? = some (Sl.dat d) → ∃ v, σ[i]? = some (some v) ∧ Rp B.K H v d
  ref : ∀ (i : Nat) (a : Addr), Γ[i]? = some (Sl.ref a) → σ[i]? = some (some (V.ref a))
structure Ok (B : Bx) (T : Th) (σ : L2.St) (H : Hp) (Γ : List Sl) : Prop where
  t : TOk B T H
  s : RS B H σ Γ
/-- outside T all is kept -/
def Kp (T : Th) (H H' : Hp) : Prop := ∀ b o, b ∉ T.map (·.1) → H b = some o → H' b = some o
section
variable {B : Bx} {T : Th} {H H' H1 H2 : Hp} {σ : L2.St} {Γ : List Sl}
theorem Kp.refl : Kp T H H := fun _ _ _ e => e
theorem Kp.trans (a : Kp T H H1) (b : Kp T H1 H2) : Kp T H H2 := fun c o n e => b c o n (a c o n e)
theorem TOk.lst' (t : TOk B T H) {a : Addr} (h : a ∈ T.map (·.1)) : ∃ xs, H a = some (.lst xs) := by
  obtain ⟨q, hq, rfl⟩ := List.mem_map.mp h
  exact (t.cells q hq).lst'
theorem TOk.tk (t : TOk B T H) (k : Kp T H H') : TK B.K H H' := fun a xs h => by
  have key : ∀ o, H a = some o → (∀ ys, o ≠ .lst ys) → H' a = some o := fun o e n => by
    refine k a o (fun hm => ?_) e
    obtain ⟨ys, e2⟩ := t.lst' hm
    rw [e2] at e
    exact n ys (Option.some.inj e).symm
  rcases h with (h | ⟨o, h⟩) | h
  · exact .inl (.inl (key _ h fun ys z => nomatch z))
  · exact .inl (.inr ⟨o, key _ h fun ys z => nomatch z⟩)
  · exact .inr h
theorem RS.mono (s : RS B H σ Γ) (k : TK B.K H H') : RS B H' σ Γ := ⟨s.len, fun i d e => let ⟨v, a, b⟩ := s.dat i d e; ⟨v, a, b.mono k⟩, s.ref⟩
theorem RpV.mono (t : TOk B T H) (k : Kp T H H') {v : V} {s : Sl} (h : RpV B T H v s) : RpV B T H' v s := by
  cases s with
  | no => trivial
  | dat d => exact Rp.mono (t.tk k) h
  | ref a => exact h
  | ty n => exact h
  | new ds =>
    obtain ⟨a, xs, e, n, z, q, r⟩ := h
    exact ⟨a, xs, e, n, z, k a _ n q, r.mono (t.tk k)⟩
theorem RpVs.mono (t : TOk B T H) (k : Kp T H H') : ∀ {v : List V} {s : List Sl}, RpVs B T H v s → RpVs B T H' v s
  | _, _, .nil => .nil
  | _, _, .cons h r => .cons (h.mono t k) (RpVs.mono t k r)
theorem RpVs.dats : ∀ {v : List V} {ds : List PyData}, RpVs B T H v (ds.map .dat) → RpAll B.K H v ds
  | _, [], h => by cases h; exact .nil
  | _, d :: ds, h => by
    cases h with
    | cons a b => exact .cons a (RpVs.dats b)
/-- a new object -/
theorem TOk.newp (t : TOk B T H) {p : Addr} (h : H p = none) : p ∉ T.map (·.1) ∧ B.H0 p = none := by
  have h1 : p ∉ T.map (·.1) := fun hm => by
    obtain ⟨xs, e⟩ := t.lst' hm
    rw [e] at h
    cases h
  refine ⟨h1, t.keep.none_back (fun hm => h1 (List.mem_map.mpr ⟨_, t.as p hm, rfl⟩)) h⟩
theorem Kp.new {p : Addr} {o : HO} (h : H p = none) : Kp T H (upd H p o) := fun b x _ e => by
  rw [upd_ne (ne_of_none e h)]
  exact e
theorem CellOk.of_same {a : Addr} {c : Cell} (h : CellOk B H a c) (e : H' a = H a) (k : TK B.K H H') : CellOk B H' a c := by
  cases c with
  | well => obtain ⟨i, j, l, q⟩ := h; exact ⟨i, j, l, e.trans q⟩
  | lst ds => obtain ⟨xs, q, r⟩ := h; exact ⟨xs, e.trans q, r.mono k⟩
  | own ds => obtain ⟨z, xs, q, r⟩ := h; exact ⟨z, xs, e.trans q, r.mono k⟩
theorem TOk.laid (t : TOk B T H) {p : Addr} {o : HO} (h : H p = none) : TOk B T (upd H p o) := by
  have hk : Kp T H (upd H p o) := Kp.new h
  refine ⟨t.nd, fun q hq => ?_, t.as, t.keep.trans (KeepA.new h)⟩
  have hc := t.cells q hq
  obtain ⟨xs, e⟩ := hc.lst'
  exact hc.of_same (upd_ne (ne_of_none e h)) (t.tk hk)
/-- behind a callee that changes nothing -/
theorem TOk.same (t : TOk B T H) (k : KeepA [] H H') : TOk B T H' := by
  have hk : Kp T H H' := fun b o _ e => k b o (by simp) e
  refine ⟨t.nd, fun q hq => ?_, t.as, t.keep.trans (k.mono fun x z => absurd z (by simp))⟩
  have hc := t.cells q hq
  obtain ⟨xs, e⟩ := hc.lst'
  exact hc.of_same ((k _ _ (by simp) e).trans e.symm) (t.tk hk)
theorem Kp.same (k : KeepA [] H H') : Kp T H H' := fun b o _ e => k b o (by simp) e
theorem nd_cell : ∀ {T : Th} {a : Addr} {c d : Cell}, (T.map (·.1)).Nodup → (a, c) ∈ T → (a, d) ∈ T → c = d
  | [], _, _, _, _, h, _ => absurd h (by simp)
  | (b, e) :: r, a, c, d, n, h1, h2 => by
    rw [List.map_cons, List.nodup_cons] at n
    rcases List.mem_cons.mp h1 with z1 | z1 <;> rcases List.mem_cons.mp h2 with z2 | z2
    · rw [(Prod.mk.inj z1).2, (Prod.mk.inj z2).2]
    · exact absurd (List.mem_map.mpr ⟨_, z2, (Prod.mk.inj z1).1⟩) n.1
    · exact absurd (List.mem_map.mpr ⟨_, z1, (Prod.mk.inj z2).1⟩) n.1
    · exact nd_cell n.2 z1 z2
/-- behind a callee that turns the well at w -/
theorem TOk.turned (t : TOk B T H) {w : Addr} (hw : (w, Cell.well) ∈ T) (ha : w ∈ B.As) (k : KeepA [w] H H') (hW : WellAt H' w) : TOk B T H' := by
  have hm : w ∈ T.map (·.1) := List.mem_map.mpr ⟨_, hw, rfl⟩
  have hk : Kp T H H' := fun b o n e => k b o (fun z => n (by rw [List.mem_singleton.mp z]; exact hm)) e
  refine ⟨t.nd, fun q hq => ?_, t.as, t.keep.trans (k.mono fun x z => by rw [List.mem_singleton.mp z]; exact ha)⟩
  have hc := t.cells q hq
  obtain ⟨xs, e⟩ := hc.lst'
  by_cases hqw : q.1 = w
  · have : q.2 = Cell.well := nd_cell t.nd (a := w) (by rw [← hqw]; exact hq) hw
    rw [this, hqw]
    exact hW
  · exact hc.of_same ((k _ _ (fun z => hqw (List.mem_singleton.mp z)) e).trans e.symm) (t.tk hk)
theorem Kp.turned {w : Addr} (hw : (w, Cell.well) ∈ T) (k : KeepA [w] H H') : Kp T H H' := fun b o n e => k b o (fun z => n (by rw [List.mem_singleton.mp z]; exact List.mem_map.mpr ⟨_, hw, rfl⟩)) e
theorem Ok.kp (o : Ok B T σ H Γ) (t : TOk B T H') (k : Kp T H H') : Ok B T σ H' Γ := ⟨t, o.s.mono (o.t.tk k)⟩
theorem RS.set (s : RS B H σ Γ) {i : Nat} {v : V} {d : PyData} (h : Rp B.K H v d) : RS B H (σ.set i (some v)) (Γ.set i (.dat d)) := by
  refine ⟨by rw [List.length_set, List.length_set]; exact s.len, fun j e q => ?_, fun j a q => ?_⟩
  · by_cases hj : i = j
    · subst hj
      by_cases hl : i < Γ.length
      · rw [List.getElem?_set_self hl] at q
        cases q
        exact ⟨v, by rw [List.getElem?_set_self (by rw [s.len]; exact hl)], h⟩
      · rw [List.getElem?_eq_none (by simpa using hl)] at q
        cases q
    · rw [List.getElem?_set_ne hj] at q ⊢
      exact s.dat j e q
  · by_cases hj : i = j
    · subst hj
      by_cases hl : i < Γ.length
      · rw [List.getElem?_set_self hl] at q
        cases q
      · rw [List.getElem?_eq_none (by simpa using hl)] at q
        cases q
    · rw [List.getElem?_set_ne hj] at q ⊢
      exact s.ref j a q
theorem RS.setRef (s : RS B H σ Γ) {i : Nat} {a : Addr} : RS B H (σ.set i (some (.ref a))) (Γ.set i (.ref a)) := by
  refine ⟨by rw [List.length_set, List.length_set]; exact s.len, fun j e q => ?_, fun j b q => ?_⟩
  · by_cases hj : i = j
    · subst hj
      by_cases hl : i < Γ.length
      · rw [List.getElem?_set_self hl] at q
        cases q
      · rw [List.getElem?_eq_none (by simpa using hl)] at q
        cases q
    · rw [List.getElem?_set_ne hj] at q ⊢
      exact s.dat j e q
  · by_cases hj : i = j
    · subst hj
      by_cases hl : i < Γ.length
      · rw [List.getElem?_set_self hl] at q
        cases q
        rw [List.getElem?_set_self (by rw [s.len]; exact hl)]
      · rw [List.getElem?_eq_none (by simpa using hl)] at q
        cases q
    · rw [List.getElem?_set_ne hj] at q ⊢
      exact s.ref j b q
theorem RS.wipe (s : RS B H σ Γ) {i : Nat} : RS B H (σ.set i none) (Γ.set i .no) := by
  refine ⟨by rw [List.length_set, List.length_set]; exact s.len, fun j e q => ?_, fun j b q => ?_⟩
  · by_cases hj : i = j
    · subst hj
      by_cases hl : i < Γ.length
      · rw [List.getElem?_set_self hl] at q
        cases q
      · rw [List.getElem?_eq_none (by simpa using hl)] at q
        cases q
    · rw [List.getElem?_set_ne hj] at q ⊢
      exact s.dat j e q
  · by_cases hj : i = j
    · subst hj
      by_cases hl : i < Γ.length
      · rw [List.getElem?_set_self hl] at q
        cases q
      · rw [List.getElem?_eq_none (by simpa using hl)] at q
        cases q
    · rw [List.getElem?_set_ne hj] at q ⊢
      exact s.ref j b q
end

/-! ### what a reading evaluates to -/
def EvT (B : Bx) (T : Th) (t : TE) (Γ : List Sl) (Q : Sl → Prop) : Prop := ∀ (σ : L2.St) (H : Hp) (k : VK), Ok B T σ H Γ → (∀ v H' s, Ok B T σ H' Γ → Kp T H H' → RpV B T H' v s → Q s → k v H') → t σ H k
def EvC (B : Bx) (T : Th) (t : TT) (Γ : List Sl) (Q : Bool → Prop) : Prop := ∀ (σ : L2.St) (H : Hp) (k : Bool → Hp → Prop), Ok B T σ H Γ → (∀ b H', Ok B T σ H' Γ → Kp T H H' → Q b → k b H') → t σ H k
def EvA (B : Bx) (T : Th) (t : TA) (Γ : List Sl) (Q : List Sl → Prop) : Prop := ∀ (σ : L2.St) (H : Hp) (k : List V → Hp → Prop), Ok B T σ H Γ → (∀ vs H' ss, Ok B T σ H' Γ → Kp T H H' → RpVs B T H' vs ss → Q ss → k vs H') → t σ H k
def R2k (B : Bx) (T : Th) (r : R2) (a b : Sl) (Q : Sl → Prop) : Prop := ∀ (x y : V) (H : Hp) (k : VK), TOk B T H → RpV B T H x a → RpV B T H y b → (∀ v H' s, TOk B T H' → Kp T H H' → RpV B T H' v s → Q s → k v H') → r x y H k
def CBk (B : Bx) (T : Th) (r : List V → Hp → VK → Prop) (ss : List Sl) (Q : Sl → Prop) : Prop := ∀ (xs : List V) (H : Hp) (k : VK), TOk B T H → RpVs B T H xs ss → (∀ v H' s, TOk B T H' → Kp T H H' → RpV B T H' v s → Q s → k v H') → r xs H k
section
variable {B : Bx} {T : Th} {Γ : List Sl} {Q Q' : Sl → Prop} {ta tb : TE} {tc td : TT} {tl : TA}
theorem EvT.imp (h : EvT B T ta Γ Q) (q : ∀ s, Q s → Q' s) : EvT B T ta Γ Q' := fun σ H k o c => h σ H k o fun v H' s o' kp r hq => c v H' s o' kp r (q s hq)
theorem EvC.imp {Q Q' : Bool → Prop} (h : EvC B T tc Γ Q) (q : ∀ s, Q s → Q' s) : EvC B T tc Γ Q' := fun σ H k o c => h σ H k o fun v H' o' kp hq => c v H' o' kp (q v hq)
theorem ev_var {i : Nat} {d : PyData} (h : Γ[i]? = some (Sl.dat d)) (q : Q (.dat d)) : EvT B T (tVar i) Γ Q := fun σ H k o c => by
  obtain ⟨v, e, r⟩ := o.s.dat i d h
  exact ⟨v, e, c v H _ o Kp.refl (rvD r) q⟩
theorem ev_ref {i : Nat} {a : Addr} (h : Γ[i]? = some (Sl.ref a)) (q : Q (.ref a)) : EvT B T (tVar i) Γ Q := fun σ H k o c =>
  ⟨_, o.s.ref i a h, c _ H (.ref a) o Kp.refl rfl q⟩
theorem ev_int {i : Int} (q : Q (.dat (.int i))) : EvT B T (tC (.int i)) Γ Q := fun σ H k o c => c _ H _ o Kp.refl (rvI i) q
theorem ev_str {i : Str} (q : Q (.dat (.str i))) : EvT B T (tC (.str i)) Γ Q := fun σ H k o c => c _ H _ o Kp.refl (rvS i) q
theorem ev_bl {i : Bool} (q : Q (.dat (.bool i))) : EvT B T (tC (.bl i)) Γ Q := fun σ H k o c => c _ H _ o Kp.refl (rvB i) q
theorem ev_ty {n : String} (q : Q (.ty n)) : EvT B T (tC (.ty n)) Γ Q := fun σ H k o c => c _ H (.ty n) o Kp.refl rfl q
/-- a constant of the module -/
theorem ev_con {v : V} {d : PyData} (h : ∀ H, Rp B.K H v d) (q : Q (.dat d)) : EvT B T (tC v) Γ Q := fun σ H k o c => c _ H (.dat d) o Kp.refl (h H) q
theorem ev_op {r : R2} (h : EvT B T ta Γ fun a => EvT B T tb Γ fun b => R2k B T r a b Q) : EvT B T (tOp r ta tb) Γ Q := fun σ H k o c =>
  h σ H _ o fun v H' s o' kp rv q => q σ H' _ o' fun u H2 z o2 kp2 ru q2 => q2 v u H2 k o2.t (rv.mono o'.t kp2) ru fun w H3 y t3 kp3 rw' hq => c w H3 y (o2.kp t3 kp3) (kp.trans (kp2.trans kp3)) rw' hq
theorem ev_un {g : Int → Int} (h : EvT B T ta Γ fun a => ∃ i, a = .dat (.int i) ∧ Q (.dat (.int (g i)))) : EvT B T (tUn (rU fun i => .int (g i)) ta) Γ Q := fun σ H k o c =>
  h σ H _ o fun v H' s o' kp rv ⟨i, e, q⟩ => by
    subst e
    cases rv
    exact ⟨i, rfl, c _ H' _ o' kp (rvI _) q⟩
theorem ev_if (h : EvC B T tc Γ fun b => (b = true → EvT B T ta Γ Q) ∧ (b = false → EvT B T tb Γ Q)) : EvT B T (tIf tc ta tb) Γ Q := fun σ H k o c =>
  h σ H _ o fun b H' o' kp q => by
    cases b with
    | true => exact iteT (q.1 rfl σ H' k o' fun v H2 s o2 kp2 r hq => c v H2 s o2 (kp.trans kp2) r hq)
    | false => exact iteF (q.2 rfl σ H' k o' fun v H2 s o2 kp2 r hq => c v H2 s o2 (kp.trans kp2) r hq)
theorem ev_ifd {d : PyData} (h : EvC B T tc Γ fun b => (b = true → EvT B T ta Γ fun s => s = .dat d) ∧ (b = false → EvT B T tb Γ fun s => s = .dat d)) (q : Q (.dat d)) : EvT B T (tIf tc ta tb) Γ Q := (ev_if h).imp fun s e => by rw [e]; exact q
theorem ev_andV (h : EvT B T ta Γ fun s => ∃ b, s = .dat (.bool b) ∧ (b = true → EvT B T tb Γ Q) ∧ (b = false → Q (.dat (.bool false)))) : EvT B T (tAndV ta tb) Γ Q := fun σ H k o c =>
  h σ H _ o fun v H' s o' kp rv ⟨b, e, q1, q2⟩ => by
    subst e
    cases rv
    refine ⟨b, rfl, ?_⟩
    cases b with
    | true => exact iteT (q1 rfl σ H' k o' fun v H2 s o2 kp2 r hq => c v H2 s o2 (kp.trans kp2) r hq)
    | false => exact iteF (c _ H' _ o' kp (rvB _) (q2 rfl))
theorem ev_orV (h : EvT B T ta Γ fun s => ∃ b, s = .dat (.bool b) ∧ (b = false → EvT B T tb Γ Q) ∧ (b = true → Q (.dat (.bool true)))) : EvT B T (tOrV ta tb) Γ Q := fun σ H k o c =>
  h σ H _ o fun v H' s o' kp rv ⟨b, e, q1, q2⟩ => by
    subst e
    cases rv
    refine ⟨b, rfl, ?_⟩
    cases b with
    | false => exact iteF (q1 rfl σ H' k o' fun v H2 s o2 kp2 r hq => c v H2 s o2 (kp.trans kp2) r hq)
    | true => exact iteT (c _ H' _ o' kp (rvB _) (q2 rfl))
theorem ev_notV (h : EvT B T ta Γ fun s => ∃ b, s = .dat (.bool b) ∧ Q (.dat (.bool !b))) : EvT B T (tNotV ta) Γ Q := fun σ H k o c =>
  h σ H _ o fun v H' s o' kp rv ⟨b, e, q1⟩ => by
    subst e
    cases rv
    exact ⟨b, rfl, c _ H' _ o' kp (rvB _) q1⟩
/-! tests -/
theorem ec_val {Q : Bool → Prop} (h : EvT B T ta Γ fun s => ∃ b, s = .dat (.bool b) ∧ Q b) : EvC B T (tB ta) Γ Q := fun σ H k o c =>
  h σ H _ o fun v H' s o' kp rv ⟨b, e, q⟩ => by
    subst e
    cases rv
    exact ⟨b, rfl, c _ H' o' kp q⟩
theorem ec_test {Q : Bool → Prop} (h : EvT B T ta Γ fun s => ∃ b, s = .dat (.bool b) ∧ Q b) : EvC B T (tTest ta) Γ Q := fun σ H k o c =>
  h σ H _ o fun v H' s o' kp rv ⟨b, e, q⟩ => by
    subst e
    cases rv
    exact ⟨b, rfl, c _ H' o' kp q⟩
theorem ec_not {Q : Bool → Prop} (h : EvC B T tc Γ fun b => Q (!b)) : EvC B T (tNot tc) Γ Q := fun σ H k o c => h σ H _ o fun b H' o' kp q => c _ H' o' kp q
theorem ec_and {Q : Bool → Prop} (h : EvC B T tc Γ fun b => (b = true → EvC B T td Γ Q) ∧ (b = false → Q false)) : EvC B T (tAnd tc td) Γ Q := fun σ H k o c => h σ H _ o fun b H' o' kp q => by
  cases b with
  | true => exact iteT (q.1 rfl σ H' k o' fun v H2 o2 kp2 hq => c v H2 o2 (kp.trans kp2) hq)
  | false => exact iteF (c _ H' o' kp (q.2 rfl))
theorem ec_or {Q : Bool → Prop} (h : EvC B T tc Γ fun b => (b = false → EvC B T td Γ Q) ∧ (b = true → Q true)) : EvC B T (tOr tc td) Γ Q := fun σ H k o c => h σ H _ o fun b H' o' kp q => by
  cases b with
  | false => exact iteF (q.1 rfl σ H' k o' fun v H2 o2 kp2 hq => c v H2 o2 (kp.trans kp2) hq)
  | true => exact iteT (c _ H' o' kp (q.2 rfl))
/-! arguments, tuples, lists -/
theorem ea_nil {Q : List Sl → Prop} (q : Q []) : EvA B T tNil Γ Q := fun σ H k o c => c _ H _ o Kp.refl .nil q
theorem ea_cons {Q : List Sl → Prop} (h : EvT B T ta Γ fun s => EvA B T tl Γ fun ss => Q (s :: ss)) : EvA B T (tCons ta tl) Γ Q := fun σ H k o c =>
  h σ H _ o fun v H' s o' kp rv q => q σ H' _ o' fun vs H2 ss o2 kp2 rvs hq => c _ H2 _ o2 (kp.trans kp2) (.cons (rv.mono o'.t kp2) rvs) hq
theorem small1000' {n : Nat} (h : n ≤ 1000) : n ≤ sizeLine := Nat.le_of_lt (small1000 h)
def TupQ (Q : List PyData → Prop) (ss : List Sl) : Prop := ∃ ds : List PyData, ss = ds.map .dat ∧ ds.length ≤ 1000 ∧ Q ds
theorem tup_q0 {Q : List PyData → Prop} (q : Q []) : TupQ Q [] := ⟨[], rfl, by simp, q⟩
theorem tup_q1 {Q : List PyData → Prop} {a : PyData} (q : Q [a]) : TupQ Q [.dat a] := ⟨[a], rfl, by simp, q⟩
theorem tup_q2 {Q : List PyData → Prop} {a b : PyData} (q : Q [a, b]) : TupQ Q [.dat a, .dat b] := ⟨[a, b], rfl, by simp, q⟩
theorem tup_q3 {Q : List PyData → Prop} {a b c : PyData} (q : Q [a, b, c]) : TupQ Q [.dat a, .dat b, .dat c] := ⟨[a, b, c], rfl, by simp, q⟩
theorem tup_q4 {Q : List PyData → Prop} {a b c d : PyData} (q : Q [a, b, c, d]) : TupQ Q [.dat a, .dat b, .dat c, .dat d] := ⟨[a, b, c, d], rfl, by simp, q⟩
theorem tup_q5 {Q : List PyData → Prop} {a b c d e : PyData} (q : Q [a, b, c, d, e]) : TupQ Q [.dat a, .dat b, .dat c, .dat d, .dat e] := ⟨[a, b, c, d, e], rfl, by simp, q⟩
theorem tup_q8 {Q : List PyData → Prop} {a b c d e f g h : PyData} (q : Q [a, b, c, d, e, f, g, h]) : TupQ Q [.dat a, .dat b, .dat c, .dat d, .dat e, .dat f, .dat g, .dat h] := ⟨[a, b, c, d, e, f, g, h], rfl, by simp, q⟩
theorem tup_q11 {Q : List PyData → Prop} {a b c d e f g h i j k : PyData} (q : Q [a, b, c, d, e, f, g, h, i, j, k]) : TupQ Q [.dat a, .dat b, .dat c, .dat d, .dat e, .dat f, .dat g, .dat h, .dat i, .dat j, .dat k] := ⟨[a, b, c, d, e, f, g, h, i, j, k], rfl, by simp, q⟩
theorem tst {Q : Bool → Prop} {b : Bool} (q : Q b) : ∃ b', Sl.dat (.bool b) = .dat (.bool b') ∧ Q b' := ⟨b, rfl, q⟩
theorem tun {Q : Int → Prop} {i : Int} (q : Q i) : ∃ i', Sl.dat (.int i) = .dat (.int i') ∧ Q i' := ⟨i, rfl, q⟩
theorem brT {b : Bool} {A C : Prop} (h : b = true) (a : A) : (b = true → A) ∧ (b = false → C) := ⟨fun _ => a, fun z => (by rw [h] at z; cases z)⟩
theorem brF {b : Bool} {A C : Prop} (h : b = false) (c : C) : (b = true → A) ∧ (b = false → C) := ⟨fun z => (by rw [h] at z; cases z), fun _ => c⟩
theorem brT' {b : Bool} {A C : Prop} (h : b = true) (c : C) : (b = false → A) ∧ (b = true → C) := ⟨fun z => (by rw [h] at z; cases z), fun _ => c⟩
theorem brF' {b : Bool} {A C : Prop} (h : b = false) (a : A) : (b = false → A) ∧ (b = true → C) := ⟨fun _ => a, fun z => (by rw [h] at z; cases z)⟩
theorem ev_tup (h : EvA B T tl Γ (TupQ fun ds => Q (.dat (.tuple ds)))) : EvT B T (tTup tl) Γ Q := fun σ H k o c =>
  h σ H _ o fun vs H' ss o' kp rvs ⟨ds, e, hl, q⟩ => by
    subst e
    have ra := rvs.dats
    refine ⟨small1000' (by rw [ra.length]; exact hl), fun p hp => ?_⟩
    have t2 := o'.t.laid (o := .tup vs) hp
    have k2 : Kp T H' (upd H' p (.tup vs)) := Kp.new hp
    exact c _ _ _ (o'.kp t2 k2) (kp.trans k2) (rvD <| .tup (.inl (.inl upd_same)) (ra.mono (o'.t.tk k2))) q
theorem ev_lst (h : EvA B T tl Γ (TupQ fun ds => Q (.new ds))) : EvT B T (tLst tl) Γ Q := fun σ H k o c =>
  h σ H _ o fun vs H' ss o' kp rvs ⟨ds, e, hl, q⟩ => by
    subst e
    have ra := rvs.dats
    refine ⟨small1000' (by rw [ra.length]; exact hl), fun p hp => ?_⟩
    have t2 := o'.t.laid (o := .lst vs) hp
    have k2 : Kp T H' (upd H' p (.lst vs)) := Kp.new hp
    obtain ⟨n1, n2⟩ := o'.t.newp hp
    exact c _ _ _ (o'.kp t2 k2) (kp.trans k2) (rvN n1 n2 upd_same (ra.mono (o'.t.tk k2))) q
/-! calls of built-ins -/
theorem ev_cb {r : List V → Hp → VK → Prop} (h : EvA B T tl Γ fun ss => CBk B T r ss Q) : EvT B T (tCB r tl) Γ Q := fun σ H k o c =>
  h σ H _ o fun vs H' ss o' kp rvs q => q vs H' k o'.t rvs fun v H2 s t2 kp2 r hq => c v H2 s (o'.kp t2 kp2) (kp.trans kp2) r hq
end

/-! ### operators -/
section
variable {B : Bx} {T : Th} {Q : Sl → Prop} {i j : Int}
theorem RpV.int_inv {H : Hp} {x : V} (h : RpV B T H x (.dat (.int i))) : x = .int i := by cases h; rfl
theorem RpV.str_inv {H : Hp} {x : V} {z : Str} (h : RpV B T H x (.dat (.str z))) : x = .str z := by cases h; rfl
theorem RpV.bl_inv {H : Hp} {x : V} {b : Bool} (h : RpV B T H x (.dat (.bool b))) : x = .bl b := by cases h; rfl
theorem RpV.tup_inv {H : Hp} {x : V} {ds : List PyData} (h : RpV B T H x (.dat (.tuple ds))) : ∃ a xs, x = .ref a ∧ SqT B.K H a xs ∧ RpAll B.K H xs ds := by
  cases h with
  | tup h1 h2 => exact ⟨_, _, rfl, h1, h2⟩
theorem r2_i0 {g : Int → Int → Int} (q : Q (.dat (.int (g i j)))) : R2k B T (rI0 fun i j => .int (g i j)) (.dat (.int i)) (.dat (.int j)) Q := fun x y H k t rx ry c =>
  ⟨i, j, rx.int_inv, ry.int_inv, c _ H _ t Kp.refl (rvI _) q⟩
theorem r2_b0 {g : Int → Int → Bool} (q : Q (.dat (.bool (g i j)))) : R2k B T (rI0 fun i j => .bl (g i j)) (.dat (.int i)) (.dat (.int j)) Q := fun x y H k t rx ry c =>
  ⟨i, j, rx.int_inv, ry.int_inv, c _ H _ t Kp.refl (rvB _) q⟩
theorem r2_i {C : Int → Int → Prop} {g : Int → Int → Int} (hc : C i j) (q : Q (.dat (.int (g i j)))) : R2k B T (rI C fun i j => .int (g i j)) (.dat (.int i)) (.dat (.int j)) Q := fun x y H k t rx ry c =>
  ⟨i, j, rx.int_inv, ry.int_inv, hc, c _ H _ t Kp.refl (rvI _) q⟩
theorem r2_eqI (q : Q (.dat (.bool (decide (i = j))))) : R2k B T rEq (.dat (.int i)) (.dat (.int j)) Q := fun x y H k t rx ry c => by
  cases rx.int_inv
  cases ry.int_inv
  refine ⟨rfl, ?_⟩
  rw [dec_int, Bool.beq_eq_decide_eq]
  exact c _ H _ t Kp.refl (rvB _) q
theorem r2_neI (q : Q (.dat (.bool (!decide (i = j))))) : R2k B T rNe (.dat (.int i)) (.dat (.int j)) Q := fun x y H k t rx ry c => by
  cases rx.int_inv
  cases ry.int_inv
  refine ⟨rfl, ?_⟩
  rw [dec_int, Bool.beq_eq_decide_eq]
  exact c _ H _ t Kp.refl (rvB _) q
theorem r2_eqS {x y : Str} (q : Q (.dat (.bool (decide (x = y))))) : R2k B T rEq (.dat (.str x)) (.dat (.str y)) Q := fun u v H k t rx ry c => by
  cases rx.str_inv
  cases ry.str_inv
  refine ⟨rfl, ?_⟩
  rw [dec_str, Bool.beq_eq_decide_eq]
  exact c _ H _ t Kp.refl (rvB _) q
theorem r2_neS {x y : Str} (q : Q (.dat (.bool (!decide (x = y))))) : R2k B T rNe (.dat (.str x)) (.dat (.str y)) Q := fun u v H k t rx ry c => by
  cases rx.str_inv
  cases ry.str_inv
  refine ⟨rfl, ?_⟩
  rw [dec_str, Bool.beq_eq_decide_eq]
  exact c _ H _ t Kp.refl (rvB _) q
theorem r2_eqD {d e : PyData} (s1 : SeqAt.shaped d = true) (s2 : SeqAt.shaped e = true) (q : Q (.dat (.bool (PyData.eqv d e)))) : R2k B T (rEqD B.K) (.dat d) (.dat e) Q := fun x y H k t rx ry c =>
  ⟨d, e, Rp.dp rx, Rp.dp ry, s1, s2, c _ H _ t Kp.refl (rvB _) q⟩
theorem r2_neD {d e : PyData} (s1 : SeqAt.shaped d = true) (s2 : SeqAt.shaped e = true) (q : Q (.dat (.bool (!PyData.eqv d e)))) : R2k B T (rNeD B.K) (.dat d) (.dat e) Q := fun x y H k t rx ry c =>
  ⟨d, e, Rp.dp rx, Rp.dp ry, s1, s2, c _ H _ t Kp.refl (rvB _) q⟩
/-- t[i] -/
theorem r2_ix {ds : List PyData} {d : PyData} (h : atI ds i = some d) (q : Q (.dat d)) : R2k B T (rIxT B.K) (.dat (.tuple ds)) (.dat (.int i)) Q := fun x y H k t rx ry c => by
  obtain ⟨a, xs, rfl, hs, ra⟩ := rx.tup_inv
  cases ry.int_inv
  unfold atI at h
  cases e : ixN ds.length i with
  | none => rw [e] at h; cases h
  | some m =>
    rw [e] at h
    obtain ⟨v, hv, rv⟩ := ra.get (show ds[m]? = some d from h)
    refine ⟨a, xs, i, v, rfl, rfl, hs, ?_, c v H _ t Kp.refl (rvD rv) q⟩
    unfold atI
    rw [ra.length, e]
    exact hv
/-- l[i], l a list of T -/
theorem r2_ixL {a : Addr} {cl : Cell} {ds : List PyData} {d : PyData} (hm : (a, cl) ∈ T) (hc : cl = .lst ds ∨ cl = .own ds) (h : atI ds i = some d) (q : Q (.dat d)) : R2k B T (rIxL B.K) (.ref a) (.dat (.int i)) Q := fun x y H k t rx ry c => by
  have rx : x = .ref a := rx
  subst rx
  cases ry.int_inv
  obtain ⟨xs, hx, ra⟩ : ∃ xs, H a = some (.lst xs) ∧ RpAll B.K H xs ds := by
    have := t.cells _ hm
    rcases hc with rfl | rfl
    · exact this
    · exact this.2
  unfold atI at h
  cases e : ixN ds.length i with
  | none => rw [e] at h; cases h
  | some m =>
    rw [e] at h
    obtain ⟨v, hv, rv⟩ := ra.get (show ds[m]? = some d from h)
    refine ⟨a, xs, i, v, rfl, rfl, .inl (.inl hx), ?_, c v H _ t Kp.refl (rvD rv) q⟩
    unfold atI
    rw [ra.length, e]
    exact hv
/-- t + u -/
theorem r2_catT {ds es : List PyData} (hd : ds ≠ []) (he : es ≠ []) (hl : ds.length + es.length ≤ 1000) (q : Q (.dat (.tuple (ds ++ es)))) : R2k B T (rCatT B.K) (.dat (.tuple ds)) (.dat (.tuple es)) Q := fun x y H k t rx ry c => by
  obtain ⟨a, xs, rfl, hs, ra⟩ := rx.tup_inv
  obtain ⟨b, ys, rfl, hs2, rb⟩ := ry.tup_inv
  have l1 := ra.length
  have l2 := rb.length
  refine ⟨a, b, xs, ys, rfl, rfl, hs, hs2, fun e => hd (List.length_eq_zero_iff.mp (by rw [← l1, e]; rfl)), small1000' (by rw [l1, l2]; exact hl), ?_⟩
  refine ⟨fun e => absurd (List.length_eq_zero_iff.mp (by rw [← l2, e]; rfl)) he, fun _ p hp => ?_⟩
  have k2 : Kp T H (upd H p (.tup (xs ++ ys))) := Kp.new hp
  exact c _ _ _ (t.laid hp) k2 (rvD <| .tup (.inl (.inl upd_same)) ((ra.append rb).mono (t.tk k2))) q
/-- list + list: both new, or lists of T -/
def LstSl (T : Th) (s : Sl) (ds : List PyData) : Prop := s = .new ds ∨ ∃ a, s = .ref a ∧ ((a, Cell.lst ds) ∈ T ∨ (a, Cell.own ds) ∈ T)
theorem LstSl.get {H : Hp} {s : Sl} {ds : List PyData} {x : V} (h : LstSl T s ds) (t : TOk B T H) (r : RpV B T H x s) : ∃ a xs, x = .ref a ∧ H a = some (.lst xs) ∧ RpAll B.K H xs ds := by
  rcases h with rfl | ⟨a, rfl, hm⟩
  · obtain ⟨a, xs, e, _, _, q, ra⟩ := r
    exact ⟨a, xs, e, q, ra⟩
  · have r : x = .ref a := r
    rcases hm with hm | hm
    · obtain ⟨xs, q, ra⟩ := t.cells _ hm
      exact ⟨a, xs, r, q, ra⟩
    · obtain ⟨_, xs, q, ra⟩ := t.cells _ hm
      exact ⟨a, xs, r, q, ra⟩
theorem r2_cat {a b : Sl} {ds es : List PyData} (ha : LstSl T a ds) (hb : LstSl T b es) (hl : ds.length + es.length ≤ 1000) (q : Q (.new (ds ++ es))) : R2k B T rCat a b Q := fun x y H k t rx ry c => by
  obtain ⟨a, xs, rfl, hs, ra⟩ := ha.get t rx
  obtain ⟨b, ys, rfl, hs2, rb⟩ := hb.get t ry
  refine ⟨a, b, xs, ys, rfl, rfl, hs, hs2, small1000' (by rw [ra.length, rb.length]; exact hl), fun p hp => ?_⟩
  have k2 : Kp T H (upd H p (.lst (xs ++ ys))) := Kp.new hp
  obtain ⟨n1, n2⟩ := t.newp hp
  exact c _ _ _ (t.laid hp) k2 (rvN n1 n2 upd_same ((ra.append rb).mono (t.tk k2))) q
/-- .. bool - bool -/
def rSubB : R2 := fun x y H Q => ∃ a b, x = .bl a ∧ y = .bl b ∧ Q (.int (b2i a - b2i b)) H
theorem r2_subB {a b : Bool} (q : Q (.dat (.int (b2i a - b2i b)))) : R2k B T rSubB (.dat (.bool a)) (.dat (.bool b)) Q := fun x y H k t rx ry c =>
  ⟨a, b, rx.bl_inv, ry.bl_inv, c _ H _ t Kp.refl (rvI _) q⟩
end
end Pl
end
section
set_option Elab.async false
set_option linter.all false
set_option maxRecDepth 100000
set_option autoImplicit false
/-! statements, calls, comprehensions, promises -/
namespace Pl
open PySem PySem.Spec PyProof.Rows L2

/-! ### statements -/
def EvS (B : Bx) (T : Th) (t : TS) (Γ : List Sl) (N : List Sl → Th → Prop) (R : Sl → Th → Prop) : Prop := ∀ (σ : L2.St) (H : Hp) (D : Ends), Ok B T σ H Γ →
  (∀ σ' H' Γ' T', Ok B T' σ' H' Γ' → N Γ' T' → D.nx σ' H') → (∀ v H' s T', TOk B T' H' → RpV B T' H' v s → R s T' → D.rt v H') → t D σ H
def EvG (B : Bx) (T : Th) (g : TG) (s : Sl) (Γ : List Sl) (N : List Sl → Prop) : Prop := ∀ (v : V) (σ : L2.St) (H : Hp) (k : L2.St → Hp → Prop), Ok B T σ H Γ → RpV B T H v s → (∀ σ' Γ', Ok B T σ' H Γ' → N Γ' → k σ' H) → g v σ H k
def EvGs (B : Bx) (T : Th) (g : TGs) (ds : List PyData) (Γ : List Sl) (N : List Sl → Prop) : Prop := ∀ (vs : List V) (σ : L2.St) (H : Hp) (k : L2.St → Hp → Prop), Ok B T σ H Γ → RpAll B.K H vs ds → (∀ σ' Γ', Ok B T σ' H Γ' → N Γ' → k σ' H) → g vs σ H k
section
variable {B : Bx} {T : Th} {Γ : List Sl} {Q Q' : Sl → Prop} {N N' : List Sl → Th → Prop} {R R' : Sl → Th → Prop} {te : TE} {t u : TS} {tc : TT} {tl : TA}
theorem EvS.imp (h : EvS B T t Γ N R) (hn : ∀ Γ T, N Γ T → N' Γ T) (hr : ∀ s T, R s T → R' s T) : EvS B T t Γ N' R' := fun σ H D o c1 c2 => h σ H D o (fun σ' H' Γ' T' o' n => c1 σ' H' Γ' T' o' (hn _ _ n)) (fun v H' s T' t' r q => c2 v H' s T' t' r (hr _ _ q))
theorem es_next (h : N Γ T) : EvS B T tNext Γ N R := fun σ H D o c1 c2 => c1 σ H Γ T o h
theorem es_seq (h : EvS B T t Γ (fun Γ' T' => EvS B T' u Γ' N R) R) : EvS B T (tSeq t u) Γ N R := fun σ H D o c1 c2 =>
  h σ H _ o (fun σ' H' Γ' T' o' n => n σ' H' D o' c1 c2) c2
theorem es_drop (h : EvT B T te Γ fun _ => N Γ T) : EvS B T (tDrop te) Γ N R := fun σ H D o c1 c2 => h σ H _ o fun v H' s o' kp r q => c1 σ H' Γ T o' q
theorem es_never (h : False) : EvS B T tNever Γ N R := h.elim
theorem es_ret (h : EvT B T te Γ fun s => R s T) : EvS B T (tRet te) Γ N R := fun σ H D o c1 c2 => h σ H _ o fun v H' s o' kp r q => c2 v H' s T o'.t r q
theorem es_if (h : EvC B T tc Γ fun b => (b = true → EvS B T t Γ N R) ∧ (b = false → EvS B T u Γ N R)) : EvS B T (tIfS tc t u) Γ N R := fun σ H D o c1 c2 => h σ H _ o fun b H' o' kp q => by
  cases b with
  | true => exact iteT (q.1 rfl σ H' D o' c1 c2)
  | false => exact iteF (q.2 rfl σ H' D o' c1 c2)
/-- what is asked behind name = s -/
def AsgQ (N : List Sl → Th → Prop) (T : Th) (Γ : List Sl) (i : Nat) : Sl → Prop
  | .dat d => N (Γ.set i (.dat d)) T
  | .ref a => N (Γ.set i (.ref a)) T
  | .new ds => ∀ a, a ∉ T.map (·.1) → N (Γ.set i (.ref a)) ((a, .own ds) :: T)
  | _ => False
theorem asg_dat {N : List Sl → Th → Prop} {T : Th} {Γ Γ' : List Sl} {i : Nat} {d : PyData} (e : Γ.set i (.dat d) = Γ') (h : N Γ' T) : AsgQ N T Γ i (.dat d) := by subst e; exact h
theorem asg_ref {N : List Sl → Th → Prop} {T : Th} {Γ Γ' : List Sl} {i : Nat} {a : Addr} (e : Γ.set i (.ref a) = Γ') (h : N Γ' T) : AsgQ N T Γ i (.ref a) := by subst e; exact h
theorem asg_new {N : List Sl → Th → Prop} {T : Th} {Γ : List Sl} {Γ' : Addr → List Sl} {i : Nat} {ds : List PyData} (e : ∀ a, Γ.set i (.ref a) = Γ' a) (h : ∀ a, a ∉ T.map (·.1) → N (Γ' a) ((a, .own ds) :: T)) : AsgQ N T Γ i (.new ds) := fun a ha => by rw [e]; exact h a ha
theorem TOk.more {H : Hp} {a : Addr} {xs : List V} {ds : List PyData} (t : TOk B T H) (n1 : a ∉ T.map (·.1)) (n2 : B.H0 a = none) (e : H a = some (.lst xs)) (r : RpAll B.K H xs ds) : TOk B ((a, .own ds) :: T) H := by
  refine ⟨?_, fun q hq => ?_, fun b hb => List.mem_cons_of_mem _ (t.as b hb), t.keep⟩
  · rw [List.map_cons, List.nodup_cons]
    exact ⟨n1, t.nd⟩
  · rcases List.mem_cons.mp hq with rfl | hq
    · exact ⟨n2, xs, e, r⟩
    · exact t.cells q hq
theorem es_asg {i : Nat} (h : EvT B T te Γ (AsgQ N T Γ i)) : EvS B T (tAsg te (gName i)) Γ N R := fun σ H D o c1 c2 => h σ H _ o fun v H' s o' kp r q => by
  cases s with
  | no => exact q.elim
  | ty n => exact q.elim
  | dat d => exact c1 _ H' _ T ⟨o'.t, o'.s.set r⟩ q
  | ref a =>
    cases (show v = .ref a from r)
    exact c1 _ H' _ T ⟨o'.t, o'.s.setRef⟩ q
  | new ds =>
    obtain ⟨a, xs, rfl, n1, n2, e, ra⟩ := r
    exact c1 _ H' _ _ ⟨o'.t.more n1 n2 e ra, o'.s.setRef⟩ (q a n1)
/-- any target -/
theorem es_asgG {g : TG} (h : EvT B T te Γ fun s => EvG B T g s Γ fun Γ' => N Γ' T) : EvS B T (tAsg te g) Γ N R := fun σ H D o c1 c2 => h σ H _ o fun v H' s o' kp r q => q v σ H' _ o' r fun σ' Γ' o2 n => c1 σ' H' Γ' T o2 n
theorem eg_name {i : Nat} {d : PyData} {N : List Sl → Prop} {Γ' : List Sl} (e : Γ.set i (.dat d) = Γ') (h : N Γ') : EvG B T (gName i) (.dat d) Γ N := fun v σ H k o r c => by subst e; exact c _ _ ⟨o.t, o.s.set r⟩ h
theorem eg_tup {n : Nat} {gs : TGs} {ds : List PyData} {N : List Sl → Prop} (hl : ds.length = n) (h : EvGs B T gs ds Γ N) : EvG B T (gTup B.K n gs) (.dat (.tuple ds)) Γ N := fun v σ H k o r c => by
  obtain ⟨a, xs, rfl, hs, ra⟩ := r.tup_inv
  exact ⟨a, xs, rfl, hs, by rw [ra.length, hl], h xs σ H k o ra c⟩
theorem eg_nil {N : List Sl → Prop} (h : N Γ) : EvGs B T gNil [] Γ N := fun vs σ H k o r c => by
  cases r
  exact ⟨rfl, c σ Γ o h⟩
theorem eg_cons {g : TG} {gs : TGs} {d : PyData} {ds : List PyData} {N : List Sl → Prop} (h : EvG B T g (.dat d) Γ fun Γ' => EvGs B T gs ds Γ' N) : EvGs B T (gCons g gs) (d :: ds) Γ N := fun vs σ H k o r c => by
  obtain ⟨v, rv, r1, r2, e⟩ : ∃ v rv, Rp B.K H v d ∧ RpAll B.K H rv ds ∧ vs = v :: rv := by
    cases r with
    | cons a b => exact ⟨_, _, a, b, rfl⟩
  subst e
  exact ⟨v, rv, rfl, h v σ H _ o r1 fun σ' Γ' o' n => n rv σ' H k o' r2 c⟩
def ParQ (N : List Sl → Th → Prop) (T : Th) (Γ : List Sl) (i j : Nat) (ss : List Sl) : Prop := ∃ d e, ss = [.dat d, .dat e] ∧ N ((Γ.set i (.dat d)).set j (.dat e)) T
def ParQ3 (N : List Sl → Th → Prop) (T : Th) (Γ : List Sl) (i j l : Nat) (ss : List Sl) : Prop := ∃ d e f, ss = [.dat d, .dat e, .dat f] ∧ N (((Γ.set i (.dat d)).set j (.dat e)).set l (.dat f)) T
theorem par_q {N : List Sl → Th → Prop} {T : Th} {Γ Γ' : List Sl} {i j : Nat} {d e : PyData} (q : (Γ.set i (.dat d)).set j (.dat e) = Γ') (h : N Γ' T) : ParQ N T Γ i j [.dat d, .dat e] := ⟨d, e, rfl, by rw [q]; exact h⟩
theorem par_q3 {N : List Sl → Th → Prop} {T : Th} {Γ Γ' : List Sl} {i j l : Nat} {d e f : PyData} (q : ((Γ.set i (.dat d)).set j (.dat e)).set l (.dat f) = Γ') (h : N Γ' T) : ParQ3 N T Γ i j l [.dat d, .dat e, .dat f] := ⟨d, e, f, rfl, by rw [q]; exact h⟩
theorem es_par {i j : Nat} (h : EvA B T tl Γ (ParQ N T Γ i j)) : EvS B T (tPar i j tl) Γ N R := fun σ H D o c1 c2 => h σ H _ o fun vs H' ss o' kp r ⟨d, e, q1, q⟩ => by
  subst q1
  cases r with
  | cons r1 r2 =>
    cases r2 with
    | cons r2 r3 =>
      cases r3
      exact ⟨_, _, rfl, c1 _ H' _ T ⟨o'.t, (o'.s.set r1).set r2⟩ q⟩
theorem es_par3 {i j l : Nat} (h : EvA B T tl Γ (ParQ3 N T Γ i j l)) : EvS B T (tPar3 i j l tl) Γ N R := fun σ H D o c1 c2 => h σ H _ o fun vs H' ss o' kp r ⟨d, e, f, q1, q⟩ => by
  subst q1
  cases r with
  | cons r1 r2 =>
    cases r2 with
    | cons r2 r3 =>
      cases r3 with
      | cons r3 r4 =>
        cases r4
        exact ⟨_, _, _, rfl, c1 _ H' _ T ⟨o'.t, ((o'.s.set r1).set r2).set r3⟩ q⟩
/-- a for over a list of T; P: what holds ahead of turn i -/
theorem es_for {i : Nat} (P : Nat → List Sl → Th → Prop) (h : EvT B T te Γ fun s => ∃ a ds, s = .ref a ∧ P 0 Γ T ∧ (∀ j Γ' T', P j Γ' T' → (a, Cell.lst ds) ∈ T' ∨ (a, Cell.own ds) ∈ T') ∧
    (∀ j d Γ' T', ds[j]? = some d → P j Γ' T' → EvS B T' t (Γ'.set i (.dat d)) (P (j + 1)) R) ∧ ∀ Γ' T', P ds.length Γ' T' → N Γ' T') : EvS B T (tFor (iList B.K te) (gName i) t) Γ N R := fun σ H D o c1 c2 => h σ H _ o fun v H' s o' kp r ⟨a, ds, q1, q2, q3, q4, q5⟩ => by
  subst q1
  cases (show v = .ref a from r)
  have rd : ∀ {j Γ' T' σ' H1}, P j Γ' T' → Ok B T' σ' H1 Γ' → ∃ xs, H1 a = some (.lst xs) ∧ RpAll B.K H1 xs ds := fun p o => by
    rcases q3 _ _ _ p with z | z
    · exact o.t.cells _ z
    · exact (o.t.cells _ z).2
  obtain ⟨xs0, e0, r0⟩ := rd q2 o'
  refine ⟨a, rfl, ⟨xs0, .inl (.inl e0)⟩, ?_⟩
  refine ⟨fun j m σ2 H2 => m = ds.length - j ∧ j ≤ ds.length ∧ ∃ Γ2 T2, Ok B T2 σ2 H2 Γ2 ∧ P j Γ2 T2, ⟨ds.length, by simp, Nat.zero_le _, Γ, T, o', q2⟩, ?_⟩
  rintro j m σ2 H2 ⟨rfl, hj, Γ2, T2, o2, p2⟩
  obtain ⟨xs, e, ra⟩ := rd p2 o2
  have hlen := ra.length
  by_cases hlt : j < ds.length
  · have hx : j < xs.length := by omega
    refine .inr ⟨⟨xs, xs[j], .inl (.inl e), by simp [hx]⟩, fun σ3 H3 => ∃ Γ3 T3, Ok B T3 σ3 H3 Γ3 ∧ P (j + 1) Γ3 T3, fun σ3 H3 p3 => ⟨ds.length - (j + 1), by omega, rfl, hlt, p3⟩, fun x H3 y => ?_⟩
    obtain ⟨e3, y⟩ := y
    subst e3
    have hxj := y xs (.inl (.inl e))
    obtain ⟨d, hd, rd'⟩ := ra.getV hxj
    exact q4 j d Γ2 T2 hd p2 _ H3 _ ⟨o2.t, o2.s.set rd'⟩ (fun σ4 H4 Γ4 T4 o4 n4 => ⟨Γ4, T4, o4, n4⟩) c2
  · have ej : j = ds.length := by omega
    subst ej
    exact .inl ⟨⟨xs, .inl (.inl e), by rw [hlen]; exact Nat.le_refl _⟩, c1 _ _ _ _ o2 (q5 _ _ p2)⟩
/-- while, by what holds and a number that falls -/
theorem es_while (P : Nat → List Sl → Th → Prop) (n : Nat) (h0 : P n Γ T) (hs : ∀ m Γ' T', P m Γ' T' → EvC B T' tc Γ' fun b => (b = true → EvS B T' t Γ' (fun Γ2 T2 => ∃ m', m' < m ∧ P m' Γ2 T2) R) ∧ (b = false → N Γ' T')) : EvS B T (tWhile tc t) Γ N R := fun σ H D o c1 c2 => by
  refine ⟨fun m σ2 H2 => ∃ Γ2 T2, Ok B T2 σ2 H2 Γ2 ∧ P m Γ2 T2, ⟨n, Γ, T, o, h0⟩, ?_⟩
  rintro m σ2 H2 ⟨Γ2, T2, o2, p2⟩
  refine hs m Γ2 T2 p2 σ2 H2 _ o2 fun b H3 o3 kp q => ?_
  cases b with
  | true => exact iteT ⟨fun σ4 H4 => ∃ m', m' < m ∧ ∃ Γ4 T4, Ok B T4 σ4 H4 Γ4 ∧ P m' Γ4 T4, fun σ4 H4 h4 => h4, q.1 rfl σ2 H3 _ o3 (fun σ4 H4 Γ4 T4 o4 ⟨m', l, p4⟩ => ⟨m', l, Γ4, T4, o4, p4⟩) c2⟩
  | false => exact iteF (c1 _ _ _ _ o3 (q.2 rfl))
/-- for over range(n) -/
theorem es_range {i : Nat} (P : Nat → List Sl → Th → Prop) (h : EvA B T tl Γ fun ss => ∃ n : Nat, ss = [.dat (.int n)] ∧ (n : Int) < 2 ^ 62 ∧ P 0 Γ T ∧
    (∀ j Γ' T', j < n → P j Γ' T' → EvS B T' t (Γ'.set i (.dat (.int j))) (P (j + 1)) R) ∧ ∀ Γ' T', P n Γ' T' → N Γ' T') : EvS B T (tFor (iRng1 tl) (gName i) t) Γ N R := fun σ H D o c1 c2 => h σ H _ o fun vs H' ss o' kp r ⟨n, q1, q0, q2, q4, q5⟩ => by
  subst q1
  cases r with
  | cons r1 r2 =>
    cases r2
    refine ⟨n, by cases r1; rfl, by omega, q0, ?_⟩
    rw [show (n : Int).toNat = n from rfl]
    refine for_range (lo := 0) (n := n) (fun j σ2 H2 => ∃ Γ2 T2, Ok B T2 σ2 H2 Γ2 ∧ P j Γ2 T2) ⟨Γ, T, o', q2⟩ (fun j σ2 H2 hj ⟨Γ2, T2, o2, p2⟩ => ?_) (fun σ2 H2 ⟨Γ2, T2, o2, p2⟩ => c1 _ _ _ _ o2 (q5 _ _ p2))
    refine q4 j Γ2 T2 hj p2 _ H2 _ ⟨o2.t, o2.s.set ?_⟩ (fun σ4 H4 Γ4 T4 o4 n4 => ⟨Γ4, T4, o4, n4⟩) c2
    rw [Int.zero_add]
    exact .int _
/-- .. over a new list -/
theorem es_forN {i : Nat} (P : Nat → List Sl → Th → Prop) (h : EvT B T te Γ fun s => ∃ ds, s = .new ds ∧ ∀ a, a ∉ T.map (·.1) → P 0 Γ ((a, .own ds) :: T) ∧ (∀ j Γ' T', P j Γ' T' → (a, Cell.own ds) ∈ T') ∧
    (∀ j d Γ' T', ds[j]? = some d → P j Γ' T' → EvS B T' t (Γ'.set i (.dat d)) (P (j + 1)) R) ∧ ∀ Γ' T', P ds.length Γ' T' → N Γ' T') : EvS B T (tFor (iList B.K te) (gName i) t) Γ N R := fun σ H D o c1 c2 => h σ H _ o fun v H' s o' kp r ⟨ds, q1, q⟩ => by
  subst q1
  obtain ⟨a, xs0, rfl, n1, n2, e0, r0⟩ := r
  obtain ⟨q2, q3, q4, q5⟩ := q a n1
  have o'' : Ok B ((a, .own ds) :: T) σ H' Γ := ⟨o'.t.more n1 n2 e0 r0, o'.s⟩
  refine ⟨a, rfl, ⟨xs0, .inl (.inl e0)⟩, ?_⟩
  refine ⟨fun j m σ2 H2 => m = ds.length - j ∧ j ≤ ds.length ∧ ∃ Γ2 T2, Ok B T2 σ2 H2 Γ2 ∧ P j Γ2 T2, ⟨ds.length, by simp, Nat.zero_le _, Γ, _, o'', q2⟩, ?_⟩
  rintro j m σ2 H2 ⟨rfl, hj, Γ2, T2, o2, p2⟩
  obtain ⟨_, xs, e, ra⟩ := o2.t.cells _ (q3 _ _ _ p2)
  have hlen := ra.length
  by_cases hlt : j < ds.length
  · have hx : j < xs.length := by omega
    refine .inr ⟨⟨xs, xs[j], .inl (.inl e), by simp [hx]⟩, fun σ3 H3 => ∃ Γ3 T3, Ok B T3 σ3 H3 Γ3 ∧ P (j + 1) Γ3 T3, fun σ3 H3 p3 => ⟨ds.length - (j + 1), by omega, rfl, hlt, p3⟩, fun x H3 y => ?_⟩
    obtain ⟨e3, y⟩ := y
    subst e3
    have hxj := y xs (.inl (.inl e))
    obtain ⟨d, hd, rd'⟩ := ra.getV hxj
    exact q4 j d Γ2 T2 hd p2 _ H3 _ ⟨o2.t, o2.s.set rd'⟩ (fun σ4 H4 Γ4 T4 o4 n4 => ⟨Γ4, T4, o4, n4⟩) c2
  · have ej : j = ds.length := by omega
    subst ej
    exact .inl ⟨⟨xs, .inl (.inl e), by rw [hlen]; exact Nat.le_refl _⟩, c1 _ _ _ _ o2 (q5 _ _ p2)⟩
end

/-! ### comprehensions -/
section
variable {B : Bx} {T : Th} {Γ : List Sl} {te ts : TE} {tt : TT}
theorem ec_yes {Q : Bool → Prop} (h : Q true) : EvC B T tYes Γ Q := fun σ H k o c => c true H o Kp.refl h
theorem filter_snoc {α : Type} (p : α → Bool) (l : List α) (i : Nat) (d : α) (h : l[i]? = some d) : (l.take (i + 1)).filter p = (l.take i).filter p ++ (if p d then [d] else []) := by
  rw [List.take_add_one, h, List.filter_append]
  show _ ++ List.filter p [d] = _
  rw [List.filter_cons]
  split <;> simp
/-- the turns of a comprehension -/
theorem lc_turn {σ : L2.St} {H : Hp} {D : Addr} {i : Nat} {ds : List PyData} {p : PyData → Bool} {f : PyData → PyData} (hlen : ds.length ≤ 1000)
    (ht : ∀ d, d ∈ ds → ∀ q, EvC B (q :: T) tt ((Γ.set i .no).set i (.dat d)) fun b => b = p d) (he : ∀ d, d ∈ ds → p d = true → ∀ q, EvT B (q :: T) te ((Γ.set i .no).set i (.dat d)) fun s => s = .dat (f d))
    {j : Nat} {d : PyData} {x : V} {H1 : Hp} (hd : ds[j]? = some d) (hx : Rp B.K H1 x d) (o : Ok B ((D, .own (((ds.take j).filter p).map f)) :: T) σ H1 Γ) (kp : Kp T H H1) (hn : D ∉ T.map (·.1)) {k : Hp → Prop}
    (hk : ∀ H2, Ok B ((D, .own (((ds.take (j + 1)).filter p).map f)) :: T) σ H2 Γ → Kp T H H2 → k H2) (hD : H D = none) :
    gName i x (wipe σ [i]) H1 fun σ2 H2 => wipe σ2 [i] = wipe σ [i] ∧ tt σ2 H2 fun b H3 => if b = true then te σ2 H3 fun y H4 => ∃ acc, H4 D = some (.lst acc) ∧ acc.length < sizeLine ∧ k (upd H4 D (.lst (acc ++ [y]))) else k H3 := by
  have hm : d ∈ ds := List.mem_of_getElem? hd
  have ew : wipe σ [i] = σ.set i none := rfl
  have o2 : Ok B ((D, .own (((ds.take j).filter p).map f)) :: T) ((σ.set i none).set i (some x)) H1 ((Γ.set i .no).set i (.dat d)) := ⟨o.t, o.s.wipe.set hx⟩
  refine ⟨?_, ?_⟩
  · show ((σ.set i none).set i (some x)).set i none = σ.set i none
    rw [List.set_set, List.set_set]
  refine ht d hm _ _ H1 _ o2 fun b H3 o3 kp3 hb => ?_
  have key : ((ds.take (j + 1)).filter p).map f = ((ds.take j).filter p).map f ++ (if p d then [f d] else []) := by
    rw [filter_snoc p ds j d hd, List.map_append]
    split <;> rfl
  have back : ∀ {H4 : Hp} {c : Cell}, Ok B ((D, c) :: T) ((σ.set i none).set i (some x)) H4 ((Γ.set i .no).set i (.dat d)) → TK B.K H1 H4 → Ok B ((D, c) :: T) σ H4 Γ := fun o4 tk => ⟨o4.t, o.s.mono tk⟩
  have kpD : ∀ {c : Cell} {H4 : Hp}, Kp ((D, c) :: T) H1 H4 → Kp T H H4 := fun k4 b ob n e => by
    have nb : b ≠ D := fun z => by rw [z, hD] at e; cases e
    exact k4 b ob (fun z => by
      rw [List.map_cons] at z
      rcases List.mem_cons.mp z with z | z
      · exact nb z
      · exact n z) (kp b ob n e)
  subst hb
  cases hp : p d with
  | true =>
    rw [if_pos rfl]
    refine he d hm hp _ _ H3 _ o3 fun y H4 s o4 kp4 ry hs => ?_
    subst hs
    obtain ⟨z0, acc, ea, ra⟩ := o4.t.cells _ List.mem_cons_self
    have hl : acc.length ≤ 1000 := by
      rw [ra.length, List.length_map]
      refine Nat.le_trans (List.length_filter_le _ _) ?_
      rw [List.length_take]
      omega
    refine ⟨acc, ea, small1000 hl, ?_⟩
    have k13 : Kp ((D, .own (((ds.take j).filter p).map f)) :: T) H1 H4 := kp3.trans kp4
    have tk4 : TK B.K H1 H4 := o.t.tk k13
    have kU : ∀ b, b ≠ D → (upd H4 D (.lst (acc ++ [y]))) b = H4 b := fun b hb => upd_ne hb
    have tkU : TK B.K H4 (upd H4 D (.lst (acc ++ [y]))) := fun a xs hs => by
      have key : ∀ ob, H4 a = some ob → (∀ ys, ob ≠ .lst ys) → upd H4 D (.lst (acc ++ [y])) a = some ob := fun ob e n => by
        rw [kU a (fun z => by rw [z, ea] at e; exact n _ (Option.some.inj e).symm)]
        exact e
      rcases hs with (hs | ⟨ob, hs⟩) | hs
      · exact .inl (.inl (key _ hs fun ys z => nomatch z))
      · exact .inl (.inr ⟨ob, key _ hs fun ys z => nomatch z⟩)
      · exact .inr hs
    have hnd : D ∉ T.map (·.1) ∧ (T.map (·.1)).Nodup := by
      have := o4.t.nd
      rw [List.map_cons, List.nodup_cons] at this
      exact this
    refine hk _ ⟨⟨?_, fun q hq => ?_, fun b hb => ?_, ?_⟩, (o.s.mono tk4).mono tkU⟩ ?_
    · rw [List.map_cons, List.nodup_cons]
      exact hnd
    · rcases List.mem_cons.mp hq with rfl | hq
      · refine ⟨z0, acc ++ [y], upd_same, ?_⟩
        rw [key, hp, if_pos rfl]
        exact (ra.mono tkU).append (.cons (Rp.mono tkU ry) .nil)
      · have hc := o4.t.cells q (List.mem_cons_of_mem _ hq)
        have nq : q.1 ≠ D := fun z => hnd.1 (by rw [← z]; exact List.mem_map.mpr ⟨_, hq, rfl⟩)
        exact hc.of_same (kU _ nq) tkU
    · rcases List.mem_cons.mp (o4.t.as b hb) with z | z
      · have := (Prod.mk.inj z).2
        cases this
      · exact List.mem_cons_of_mem _ z
    · intro b ob nb e
      have h1 := o4.t.keep b ob nb e
      rw [kU b (fun z => by rw [z, z0] at e; cases e)]
      exact h1
    · intro b ob nb e
      have h1 := kpD k13 b ob nb e
      rw [kU b (fun z => by rw [z, hD] at e; cases e)]
      exact h1
  | false =>
    rw [if_neg Bool.false_ne_true]
    have e2 : ((ds.take (j + 1)).filter p).map f = ((ds.take j).filter p).map f := by rw [key, hp]; simp
    refine hk H3 ?_ (kpD kp3)
    rw [e2]
    exact back o3 (o.t.tk kp3)
theorem ok_more {σ : L2.St} {H : Hp} {D : Addr} (o : Ok B T σ H Γ) (hD : H D = none) : Ok B ((D, .own []) :: T) σ (upd H D (.lst [])) Γ ∧ D ∉ T.map (·.1) ∧ B.H0 D = none := by
  obtain ⟨n1, n2⟩ := o.t.newp hD
  refine ⟨⟨(o.t.laid hD).more n1 n2 upd_same .nil, o.s.mono (o.t.tk (Kp.new hD))⟩, n1, n2⟩
/-- [f(d) for d in a tuple if p(d)] -/
theorem ev_lcT {Q : Sl → Prop} {i : Nat} {p : PyData → Bool} {f : PyData → PyData} (h : EvT B T ts Γ fun s => ∃ ds, s = .dat (.tuple ds) ∧ ds.length ≤ 1000 ∧ (∀ d, d ∈ ds → ∀ q, EvC B (q :: T) tt ((Γ.set i .no).set i (.dat d)) fun b => b = p d) ∧
    (∀ d, d ∈ ds → p d = true → ∀ q, EvT B (q :: T) te ((Γ.set i .no).set i (.dat d)) fun s => s = .dat (f d)) ∧ Q (.new ((ds.filter p).map f))) : EvT B T (tLc (iTup B.K ts) (gName i) tt te [i]) Γ Q := fun σ H k o c => h σ H _ o fun v H1 s o1 kp1 r ⟨ds, q1, q2, q3, q4, q5⟩ => by
  subst q1
  obtain ⟨a, xs, rfl, hs, ra⟩ := r.tup_inv
  refine ⟨a, rfl, ⟨xs, hs⟩, fun D hD => ?_⟩
  obtain ⟨oD, n1, n2⟩ := ok_more o1 hD
  refine lc_tup (K := B.K) (a := a) (xs := xs) (fun j H2 => Ok B ((D, .own (((ds.take j).filter p).map f)) :: T) σ H2 Γ ∧ Kp T H1 H2) ⟨oD, Kp.new hD⟩ (fun j H2 _ ⟨o2, k2⟩ => o1.t.tk k2 _ _ hs) (fun j x H2 hx ⟨o2, k2⟩ => ?_) (fun H2 ⟨o2, k2⟩ => ?_)
  · obtain ⟨d, hd, rd⟩ := ra.getV hx
    exact lc_turn q2 q3 q4 hd (Rp.mono (o1.t.tk k2) rd) o2 k2 n1 (fun H3 o3 k3 => ⟨o3, k3⟩) hD
  · rw [ra.length, List.take_length] at o2
    obtain ⟨_, ys, ey, ry⟩ := o2.t.cells _ List.mem_cons_self
    have tO : TOk B T H2 := ⟨o1.t.nd, fun q hq => o2.t.cells q (List.mem_cons_of_mem _ hq), o1.t.as, o2.t.keep⟩
    exact c _ H2 _ (o.kp tO (kp1.trans k2)) (kp1.trans k2) (rvN n1 n2 ey ry) q5
/-- .. in a list of T -/
theorem ev_lcL {Q : Sl → Prop} {i : Nat} {p : PyData → Bool} {f : PyData → PyData} (h : EvT B T ts Γ fun s => ∃ a ds, s = .ref a ∧ ((a, Cell.lst ds) ∈ T ∨ (a, Cell.own ds) ∈ T) ∧ ds.length ≤ 1000 ∧ (∀ d, d ∈ ds → ∀ q, EvC B (q :: T) tt ((Γ.set i .no).set i (.dat d)) fun b => b = p d) ∧
    (∀ d, d ∈ ds → p d = true → ∀ q, EvT B (q :: T) te ((Γ.set i .no).set i (.dat d)) fun s => s = .dat (f d)) ∧ Q (.new ((ds.filter p).map f))) : EvT B T (tLc (iList B.K ts) (gName i) tt te [i]) Γ Q := fun σ H k o c => h σ H _ o fun v H1 s o1 kp1 r ⟨a, ds, q1, qm, q2, q3, q4, q5⟩ => by
  subst q1
  cases (show v = .ref a from r)
  have rd : ∀ {H2 : Hp}, TOk B T H2 → ∃ xs, H2 a = some (.lst xs) ∧ RpAll B.K H2 xs ds := fun t => by
    rcases qm with z | z
    · exact t.cells _ z
    · exact (t.cells _ z).2
  obtain ⟨xs0, e0, r0⟩ := rd o1.t
  refine ⟨a, rfl, ⟨xs0, .inl (.inl e0)⟩, fun D hD => ?_⟩
  obtain ⟨oD, n1, n2⟩ := ok_more o1 hD
  have down : ∀ {H2 : Hp} {σ' : L2.St} {c : Cell}, Ok B ((D, c) :: T) σ' H2 Γ → TOk B T H2 := fun o2 => ⟨o1.t.nd, fun q hq => o2.t.cells q (List.mem_cons_of_mem _ hq), o1.t.as, o2.t.keep⟩
  refine ⟨fun j m H2 => m = ds.length - j ∧ j ≤ ds.length ∧ Ok B ((D, .own (((ds.take j).filter p).map f)) :: T) σ H2 Γ ∧ Kp T H1 H2, ⟨ds.length, by simp, Nat.zero_le _, oD, Kp.new hD⟩, ?_⟩
  rintro j m H2 ⟨rfl, hj, o2, k2⟩
  obtain ⟨xs, e, ra⟩ := rd (down o2)
  have hlen := ra.length
  by_cases hlt : j < ds.length
  · have hx : j < xs.length := by omega
    refine .inr ⟨⟨xs, xs[j], .inl (.inl e), by simp [hx]⟩, fun H3 => Ok B ((D, .own (((ds.take (j + 1)).filter p).map f)) :: T) σ H3 Γ ∧ Kp T H1 H3, fun H3 p3 => ⟨ds.length - (j + 1), by omega, rfl, hlt, p3⟩, fun x H3 y => ?_⟩
    obtain ⟨e3, y⟩ := y
    subst e3
    obtain ⟨d, hd, rd'⟩ := ra.getV (y xs (.inl (.inl e)))
    exact lc_turn q2 q3 q4 hd rd' o2 k2 n1 (fun H4 o4 k4 => ⟨o4, k4⟩) hD
  · have ej : j = ds.length := by omega
    subst ej
    refine .inl ⟨⟨xs, .inl (.inl e), by rw [hlen]; exact Nat.le_refl _⟩, ?_⟩
    rw [List.take_length] at o2
    obtain ⟨_, ys, ey, ry⟩ := o2.t.cells _ List.mem_cons_self
    exact c _ H2 _ (o.kp (down o2) (kp1.trans k2)) (kp1.trans k2) (rvN n1 n2 ey ry) q5
end

/-! ### promises and calls -/
/-- of data, changing nothing: S tells of the arguments the value -/
def spP (K : PySem.W.Frag) (S : List PyData → PyData → Prop) : Sp := fun vs H Q _ => ∃ ds d, RpAll K H vs ds ∧ S ds d ∧ ∀ v H', KeepA [] H H' → Rp K H' v d → Q v H'
/-- .. handing back a new list -/
def spL (K : PySem.W.Frag) (S : List PyData → List PyData → Prop) : Sp := fun vs H Q _ => ∃ ds es, RpAll K H vs ds ∧ S ds es ∧ ∀ p xs H', KeepA [] H H' → H p = none → H' p = some (.lst xs) → RpAll K H' xs es → Q (.ref p) H'
/-- .. of a well and data -/
def spW (K : PySem.W.Frag) (S : List PyData → (PyData → Prop) → Prop) : Sp := fun vs H Q _ => ∃ w vs' ds P, vs = .ref w :: vs' ∧ WellAt H w ∧ RpAll K H vs' ds ∧ S ds P ∧ ∀ v H' d, KeepA [w] H H' → WellAt H' w → Rp K H' v d → P d → Q v H'
/-- .. of a well and a list -/
def spWL (K : PySem.W.Frag) (S : List PyData → (PyData → Prop) → Prop) : Sp := fun vs H Q _ => ∃ w a xs ds P, vs = [.ref w, .ref a] ∧ w ≠ a ∧ WellAt H w ∧ H a = some (.lst xs) ∧ RpAll K H xs ds ∧ S ds P ∧ ∀ v H' d, KeepA [w] H H' → WellAt H' w → Rp K H' v d → P d → Q v H'
section
variable {B : Bx} {T : Th} {Γ : List Sl} {Q : Sl → Prop} {tl : TA} {E : XK}
theorem ev_callP {S : List PyData → PyData → Prop} (h : EvA B T tl Γ fun ss => ∃ ds d, ss = ds.map .dat ∧ S ds d ∧ Q (.dat d)) : EvT B T (tCall (spP B.K S) [] E tl) Γ Q := fun σ H k o c => h σ H _ o fun vs H' ss o' kp r ⟨ds, d, e, hs, q⟩ => by
  subst e
  refine ⟨ds, d, by rw [List.append_nil]; exact r.dats, hs, fun v H2 k2 rv => ?_⟩
  exact c v H2 _ (o'.kp (o'.t.same k2) (Kp.same k2)) (kp.trans (Kp.same k2)) (rvD rv) q
theorem ev_callL {S : List PyData → List PyData → Prop} (h : EvA B T tl Γ fun ss => ∃ ds es, ss = ds.map .dat ∧ S ds es ∧ Q (.new es)) : EvT B T (tCall (spL B.K S) [] E tl) Γ Q := fun σ H k o c => h σ H _ o fun vs H' ss o' kp r ⟨ds, d, e, hs, q⟩ => by
  subst e
  refine ⟨ds, d, by rw [List.append_nil]; exact r.dats, hs, fun p xs H2 k2 hp hx rv => ?_⟩
  obtain ⟨n1, n2⟩ := o'.t.newp hp
  exact c _ H2 _ (o'.kp (o'.t.same k2) (Kp.same k2)) (kp.trans (Kp.same k2)) (rvN n1 n2 hx rv) q
theorem ev_callW {S : List PyData → (PyData → Prop) → Prop} (h : EvA B T tl Γ fun ss => ∃ w ds P, ss = .ref w :: ds.map .dat ∧ w ∈ B.As ∧ S ds P ∧ ∀ d, P d → Q (.dat d)) : EvT B T (tCall (spW B.K S) [] E tl) Γ Q := fun σ H k o c => h σ H _ o fun vs H' ss o' kp r ⟨w, ds, P, e, hw, hs, q⟩ => by
  subst e
  cases r with
  | @cons v0 vs' _ _ r1 r2 =>
    cases (show v0 = .ref w from r1)
    have hm := o'.t.as w hw
    refine ⟨w, vs', ds, P, by rw [List.append_nil], o'.t.cells _ hm, r2.dats, hs, fun v H2 d k2 hW rv hp => ?_⟩
    exact c v H2 _ (o'.kp (o'.t.turned hm hw k2 hW) (Kp.turned hm k2)) (kp.trans (Kp.turned hm k2)) (rvD rv) (q d hp)
theorem ev_callWL {S : List PyData → (PyData → Prop) → Prop} (h : EvA B T tl Γ fun ss => ∃ w a ds P, ss = [.ref w, .ref a] ∧ w ∈ B.As ∧ ((a, Cell.lst ds) ∈ T ∨ (a, Cell.own ds) ∈ T) ∧ S ds P ∧ ∀ d, P d → Q (.dat d)) : EvT B T (tCall (spWL B.K S) [] E tl) Γ Q := fun σ H k o c => h σ H _ o fun vs H' ss o' kp r ⟨w, a, ds, P, e, hw, ha, hs, q⟩ => by
  subst e
  cases r with
  | @cons v0 vs' _ _ r1 r2 =>
    cases r2 with
    | @cons v1 vs2 _ _ r2 r3 =>
      cases r3
      cases (show v0 = .ref w from r1)
      cases (show v1 = .ref a from r2)
      have hm := o'.t.as w hw
      have hne : w ≠ a := fun z => by
        subst z
        rcases ha with ha | ha
        · have := nd_cell o'.t.nd hm ha
          cases this
        · have := nd_cell o'.t.nd hm ha
          cases this
      obtain ⟨xs, ex, rx⟩ : ∃ xs, H' a = some (.lst xs) ∧ RpAll B.K H' xs ds := by
        rcases ha with ha | ha
        · exact o'.t.cells _ ha
        · exact (o'.t.cells _ ha).2
      refine ⟨w, a, xs, ds, P, rfl, hne, o'.t.cells _ hm, ex, rx, hs, fun v H2 d k2 hW rv hp => ?_⟩
      exact c v H2 _ (o'.kp (o'.t.turned hm hw k2 hW) (Kp.turned hm k2)) (kp.trans (Kp.turned hm k2)) (rvD rv) (q d hp)
end

/-! ### a body keeps its promise -/
theorem start_rs {B : Bx} {H : Hp} {N : List Str} {vs : List V} {ds : List PyData} (r : RpAll B.K H vs ds) (hl : vs.length ≤ N.length) : RS B H (start N vs) (ds.map .dat ++ List.replicate (N.length - ds.length) .no) := by
  have e := r.length
  refine ⟨?_, fun i d h => ?_, fun i a h => ?_⟩
  · unfold L2.start
    simp only [List.length_append, List.length_map, List.length_replicate]
    omega
  · by_cases hi : i < ds.length
    · rw [List.getElem?_append_left (by simpa using hi), List.getElem?_map] at h
      cases q : ds[i]? with
      | none => rw [q] at h; cases h
      | some d' =>
        rw [q] at h
        cases h
        obtain ⟨v, hv, rv⟩ := r.get q
        refine ⟨v, ?_, rv⟩
        unfold L2.start
        rw [List.getElem?_append_left (by rw [List.length_map]; omega), List.getElem?_map, hv]
        rfl
    · rw [List.getElem?_append_right (by simpa using Nat.le_of_not_lt hi), List.getElem?_replicate] at h
      split at h <;> cases h
  · by_cases hi : i < ds.length
    · rw [List.getElem?_append_left (by simpa using hi), List.getElem?_map] at h
      cases q : ds[i]? with
      | none => rw [q] at h; cases h
      | some d' => rw [q] at h; cases h
    · rw [List.getElem?_append_right (by simpa using Nat.le_of_not_lt hi), List.getElem?_replicate] at h
      split at h <;> cases h
theorem body_P {K : PySem.W.Frag} {t : TS} {N : List Str} {vs : List V} {H : Hp} {Q : VK} {E : XK} {S : List PyData → PyData → Prop} {n : Nat} (hn : n ≤ N.length) (h : spP K S vs H Q E)
    (hS : ∀ ds d, S ds d → ds.length = n) (ev : ∀ ds d, S ds d → EvS ⟨K, [], H⟩ [] t (ds.map .dat ++ List.replicate (N.length - ds.length) .no) (fun _ _ => d = .none) (fun s _ => s = .dat d)) :
    t { nx := fun _ H' => Q .non H', rt := Q } (start N vs) H := by
  obtain ⟨ds, d, r, hs, q⟩ := h
  have hl := hS ds d hs
  have e := r.length
  refine ev ds d hs _ H _ ⟨⟨List.nodup_nil, fun q hq => absurd hq (by simp), fun a ha => absurd (show a ∈ ([] : List Addr) from ha) (by simp), KeepA.refl⟩, start_rs (B := ⟨K, [], H⟩) r (by omega)⟩ (fun σ' H' Γ' T' o n => ?_) (fun v H' s T' tk rv hr => ?_)
  · subst n
    exact q _ H' o.t.keep .non
  · subst hr
    exact q v H' tk.keep rv
theorem body_L {K : PySem.W.Frag} {t : TS} {N : List Str} {vs : List V} {H : Hp} {Q : VK} {E : XK} {S : List PyData → List PyData → Prop} {n : Nat} (hn : n ≤ N.length) (h : spL K S vs H Q E)
    (hS : ∀ ds d, S ds d → ds.length = n) (ev : ∀ ds es, S ds es → EvS ⟨K, [], H⟩ [] t (ds.map .dat ++ List.replicate (N.length - ds.length) .no) (fun _ _ => False) (fun s T' => s = .new es ∨ ∃ a, s = .ref a ∧ (a, Cell.own es) ∈ T')) :
    t { nx := fun _ H' => Q .non H', rt := Q } (start N vs) H := by
  obtain ⟨ds, d, r, hs, q⟩ := h
  have hl := hS ds d hs
  have e := r.length
  refine ev ds d hs _ H _ ⟨⟨List.nodup_nil, fun q hq => absurd hq (by simp), fun a ha => absurd (show a ∈ ([] : List Addr) from ha) (by simp), KeepA.refl⟩, start_rs (B := ⟨K, [], H⟩) r (by omega)⟩ (fun σ' H' Γ' T' o n => n.elim) (fun v H' s T' tk rv hr => ?_)
  rcases hr with rfl | ⟨a, rfl, hm⟩
  · obtain ⟨a, xs, rfl, n1, n2, ex, rx⟩ := rv
    exact q a xs H' tk.keep n2 ex rx
  · cases (show v = .ref a from rv)
    obtain ⟨n2, xs, ex, rx⟩ := tk.cells _ hm
    exact q a xs H' tk.keep n2 ex rx
theorem start_rsW {B : Bx} {H : Hp} {N : List Str} {vs : List V} {ds : List PyData} {w : Addr} (r : RpAll B.K H vs ds) (hl : vs.length + 1 ≤ N.length) : RS B H (start N (.ref w :: vs)) (.ref w :: (ds.map .dat ++ List.replicate (N.length - (ds.length + 1)) .no)) := by
  have e := r.length
  have hN : N.length - (ds.length + 1) = (N.drop 1).length - ds.length := by rw [List.length_drop]; omega
  have hs : start N (.ref w :: vs) = some (.ref w) :: start (N.drop 1) vs := by
    unfold L2.start
    rw [List.map_cons, List.cons_append, List.length_cons, List.length_drop]
    congr 3
    omega
  have R := start_rs (N := N.drop 1) r (by rw [List.length_drop]; omega)
  rw [hs, hN]
  refine ⟨by rw [List.length_cons, List.length_cons, R.len], fun i d h => ?_, fun i a h => ?_⟩
  · cases i with
    | zero => cases h
    | succ i => exact R.dat i d h
  · cases i with
    | zero => cases h; rfl
    | succ i => exact R.ref i a h
theorem body_W {K : PySem.W.Frag} {t : TS} {N : List Str} {vs : List V} {H : Hp} {Q : VK} {E : XK} {S : List PyData → (PyData → Prop) → Prop} {n : Nat} (hn : n + 1 ≤ N.length) (h : spW K S vs H Q E)
    (hS : ∀ ds d, S ds d → ds.length = n) (ev : ∀ w ds P, S ds P → EvS ⟨K, [w], H⟩ [(w, .well)] t (.ref w :: (ds.map .dat ++ List.replicate (N.length - (ds.length + 1)) .no)) (fun _ _ => False) (fun s _ => ∃ d, s = .dat d ∧ P d)) :
    t { nx := fun _ H' => Q .non H', rt := Q } (start N vs) H := by
  obtain ⟨w, vs, ds, P, rfl, hw, r, hs, q⟩ := h
  have hl := hS ds P hs
  have e := r.length
  refine ev w ds P hs _ H _ ⟨⟨by simp, fun q hq => ?_, fun a ha => ?_, KeepA.refl⟩, start_rsW (B := ⟨K, [w], H⟩) r (by omega)⟩ (fun σ' H' Γ' T' o n => n.elim) (fun v H' s T' tk rv hr => ?_)
  · cases List.mem_singleton.mp hq
    exact hw
  · have e : a = w := List.mem_singleton.mp ha
    rw [e]
    exact List.mem_singleton.mpr rfl
  · obtain ⟨d, rfl, hp⟩ := hr
    exact q v H' d tk.keep (tk.cells _ (tk.as w (List.mem_singleton.mpr rfl))) rv hp
theorem body_WL {K : PySem.W.Frag} {t : TS} {N : List Str} {vs : List V} {H : Hp} {Q : VK} {E : XK} {S : List PyData → (PyData → Prop) → Prop} (hn : 2 ≤ N.length) (h : spWL K S vs H Q E)
    (ev : ∀ w a ds P, S ds P → EvS ⟨K, [w], H⟩ [(w, .well), (a, .lst ds)] t (.ref w :: .ref a :: List.replicate (N.length - 2) .no) (fun _ _ => False) (fun s _ => ∃ d, s = .dat d ∧ P d)) :
    t { nx := fun _ H' => Q .non H', rt := Q } (start N vs) H := by
  obtain ⟨w, a, xs, ds, P, rfl, ne, hw, hx, r, hs, q⟩ := h
  have hs2 : start N [.ref w, .ref a] = some (.ref w) :: some (.ref a) :: List.replicate (N.length - 2) none := rfl
  refine ev w a ds P hs _ H _ ⟨⟨by simp [ne], fun q hq => ?_, fun b hb => ?_, KeepA.refl⟩, ?_⟩ (fun σ' H' Γ' T' o n => n.elim) (fun v H' s T' tk rv hr => ?_)
  · rcases List.mem_cons.mp hq with rfl | hq
    · exact hw
    · cases List.mem_singleton.mp hq
      exact ⟨xs, hx, r⟩
  · have e : b = w := List.mem_singleton.mp hb
    rw [e]
    exact List.mem_cons_self
  · rw [hs2]
    refine ⟨by simp, fun i d h => ?_, fun i b h => ?_⟩
    · match i, h with
      | 0, h => cases h
      | 1, h => cases h
      | i + 2, h =>
        have h' : (List.replicate (N.length - 2) Sl.no)[i]? = some (.dat d) := h
        rw [List.getElem?_replicate] at h'
        split at h' <;> cases h'
    · match i, h with
      | 0, h => cases h; rfl
      | 1, h => cases h; rfl
      | i + 2, h =>
        have h' : (List.replicate (N.length - 2) Sl.no)[i]? = some (.ref b) := h
        rw [List.getElem?_replicate] at h'
        split at h' <;> cases h'
  · obtain ⟨d, rfl, hp⟩ := hr
    exact q v H' d tk.keep (tk.cells _ (tk.as w (List.mem_singleton.mpr rfl))) rv hp
end Pl
end
section
set_option Elab.async false
set_option linter.all false
set_option maxRecDepth 100000
set_option autoImplicit false
/-! operators and built-ins -/
namespace Pl
open PySem PySem.Spec PyProof.Rows L2

/-! ### rules for a context -/
/-- // by any divisor but 0 where C divides by itself -/
def CDv (i j : Int) : Prop := j ≠ 0 ∧ Builtin.divisionGoesByPylong i j = false
/-- % by any divisor but 0 -/
def CMd (_ j : Int) : Prop := j ≠ 0
/-- n ** 2 -/
def CSq (i j : Int) : Prop := j = 2 ∧ i.natAbs < 2 ^ 100000
section
variable {X : Cx}
theorem op_fdv : OpR X (binaryOp .FloorDiv) (rI CDv fun i j => .int (i.fdiv j)) := opI fun _ _ _ _ _ _ _ hc q => floordiv_int hc.1 q (.inl hc.2)
theorem op_md : OpR X (binaryOp .Mod) (rI CMd fun i j => .int (i.fmod j)) := opI fun _ _ _ _ _ _ _ hc q => mod_int' hc q
theorem bits_le {i : Int} {n : Nat} (h : i.natAbs < 2 ^ n) : Builtin.Int.intBits i ≤ n := by
  unfold Builtin.Int.intBits
  split
  · exact Nat.zero_le _
  · rename_i z
    have z' : i ≠ 0 := by simpa using z
    have := (Nat.log2_lt (show i.natAbs ≠ 0 by omega)).mpr h
    omega
theorem op_sq : OpR X (binaryOp .Pow) (rI CSq fun i _ => .int (i * i)) := by
  refine opI fun i j t u s Q E hc q => ?_
  obtain ⟨rfl, hb⟩ := hc
  have e2 : i ^ (2 : Int).toNat = i * i := by
    show i ^ 2 = i * i
    rw [Int.pow_succ, Int.pow_succ, Int.pow_zero, Int.one_mul]
  by_cases h01 : (i == 0 || i == 1) = true
  · refine PySem.AutoIntOps.pow_1 (by decide) (by decide) h01 ?_
    have : i * i = i := by
      rcases Bool.or_eq_true_iff.mp h01 with h | h
      · rw [beq_iff_eq.mp h]; rfl
      · rw [beq_iff_eq.mp h]; rfl
    rw [this] at q
    exact q
  · by_cases hm : (i == -1) = true
    · refine PySem.AutoIntOps.pow_2 (by decide) (by decide) h01 hm ?_
      rw [beq_iff_eq.mp hm] at q
      exact q
    · refine PySem.AutoIntOps.pow_4 (by decide) (by decide) h01 hm ?_ ?_
      · have hb2 := bits_le hb
        unfold Builtin.Int.intTooBig
        rw [show bitsLine = 134217728 from by decide]
        simp only [decide_eq_true_eq]
        omega
      · rw [e2]
        exact q
/-- bool - bool -/
theorem op_subB : OpR X (binaryOp .Sub) rSubB := by
  intro pins s σ H x y v u Q I rx ry h
  obtain ⟨a, b, rfl, rfl, q⟩ := h
  cases rx
  cases ry
  refine sub_bool ⟨.int (b2i a - b2i b), H, I.tok _, ⟨_, rfl⟩, q⟩
def rIsq : List V → Hp → VK → Prop := fun vs H Q => ∃ a : Int, vs = [.int a] ∧ 0 ≤ a ∧ a.natAbs < 2 ^ 13400 ∧ Q (.int ((Float64.isqrt a.toNat : Nat) : Int)) H
theorem cr_isq : CallR X (.builtin "math.isqrt") rIsq := by
  intro pins s σ H vs us Q I r h
  obtain ⟨a, rfl, h0, hb, q⟩ := h
  obtain ⟨u, rfl, t, rfl⟩ := vals1 r
  have hl : a.toNat.log2 < 13400 := PySem.Flt.log2_lt_of (by decide) (by rw [show a.toNat = a.natAbs by omega]; exact hb)
  exact call_function_meets PySem.W.MGF.kind_isqrt PySem.W.MGF.plain_isqrt PySem.W.MGF.entry_isqrt (PySem.W.MGF.args_isqrt _) (PySem.W.mg_run_isqrt a t (by omega) (by omega) (by omega)).meets ⟨.int _, H, I.tok _, ⟨_, rfl⟩, q⟩

/-- repr of a list of data -/
def rRepr (K : PySem.W.Frag) : List V → Hp → VK → Prop := fun vs H Q => ∃ (a : Addr) (d : PyData), vs = [.ref a] ∧ Dp K H (.ref a) d ∧ d.showable = true ∧ d.hasDict = false ∧ d.depth ≤ 64 ∧ d.shown.length ≤ sizeLine ∧ Q (.str d.shown) H
theorem cr_repr (hg : X.A.guards = some []) (hu : X.A.units + 65 < cLine) : CallR X (.builtin "repr") (rRepr X.K) := by
  intro pins s σ H vs us Q I r h
  obtain ⟨a, d, rfl, hd, h1, h2, h3, h4, q⟩ := h
  obtain ⟨u, rfl, ru⟩ := vals1 r
  obtain ⟨as, rd⟩ := Dp.reads I d _ _ hd ru
  cases (show u = Value.ref a from ru)
  exact repr_of_reads' rd h1 (fun z => by rw [h2] at z; cases z) hg (by omega) (fun b o e => e) (fun h' w tk hk => ⟨.str d.shown, H, I.kept hk, ⟨_, rfl⟩, q⟩) h4
end

/-! ### what they evaluate to -/
section
variable {B : Bx} {T : Th} {Γ : List Sl} {Q : Sl → Prop} {te : TE} {i j : Int}
/-- one argument's value -/
theorem RpVs.one {H : Hp} {vs : List V} {a : Sl} (h : RpVs B T H vs [a]) : ∃ x, vs = [x] ∧ RpV B T H x a := by
  cases h with
  | cons r1 r2 => cases r2; exact ⟨_, rfl, r1⟩
theorem RpVs.two {H : Hp} {vs : List V} {a b : Sl} (h : RpVs B T H vs [a, b]) : ∃ x y, vs = [x, y] ∧ RpV B T H x a ∧ RpV B T H y b := by
  cases h with
  | cons r1 r2 =>
    cases r2 with
    | cons r2 r3 => cases r3; exact ⟨_, _, rfl, r1, r2⟩
theorem cb_gcd (q : Q (.dat (.int ((Nat.gcd i.natAbs j.natAbs : Nat) : Int)))) : CBk B T rGcd [.dat (.int i), .dat (.int j)] Q := fun xs H k t r c => by
  obtain ⟨x, y, rfl, r1, r2⟩ := r.two
  exact ⟨i, j, by rw [r1.int_inv, r2.int_inv], c _ H _ t Kp.refl (rvI _) q⟩
theorem cb_isq (h0 : 0 ≤ i) (hb : i.natAbs < 2 ^ 13400) (q : Q (.dat (.int ((Float64.isqrt i.toNat : Nat) : Int)))) : CBk B T rIsq [.dat (.int i)] Q := fun xs H k t r c => by
  obtain ⟨x, rfl, r1⟩ := r.one
  exact ⟨i, by rw [r1.int_inv], h0, hb, c _ H _ t Kp.refl (rvI _) q⟩
abbrev rAbs : List V → Hp → VK → Prop := fun xs H Q => ∃ i, xs = [.int i] ∧ Q (.int (if i < 0 then -i else i)) H
theorem cb_abs (q : Q (.dat (.int (if i < 0 then -i else i)))) : CBk B T rAbs [.dat (.int i)] Q := fun xs H k t r c => by
  obtain ⟨x, rfl, r1⟩ := r.one
  exact ⟨i, by rw [r1.int_inv], c _ H _ t Kp.refl (rvI _) q⟩
abbrev rInt1 : List V → Hp → VK → Prop := fun xs H Q => (∃ i, xs = [.int i] ∧ Q (.int i) H) ∨ ∃ k, xs = [.bl k] ∧ Q (.int (if k then 1 else 0)) H
theorem cb_int (q : Q (.dat (.int i))) : CBk B T rInt1 [.dat (.int i)] Q := fun xs H k t r c => by
  obtain ⟨x, rfl, r1⟩ := r.one
  exact .inl ⟨i, by rw [r1.int_inv], c _ H _ t Kp.refl (rvI _) q⟩
abbrev rLenA (K : PySem.W.Frag) : List V → Hp → VK → Prop := fun xs H Q => ∃ x n, xs = [x] ∧ LenV K x H n ∧ Q (.int n) H
theorem cb_lenT {ds : List PyData} (q : Q (.dat (.int ds.length))) : CBk B T (rLenA B.K) [.dat (.tuple ds)] Q := fun xs H k t r c => by
  obtain ⟨x, rfl, r1⟩ := r.one
  obtain ⟨a, ys, rfl, hs, ra⟩ := r1.tup_inv
  exact ⟨_, ds.length, rfl, .inr ⟨ys, hs, ra.length.symm⟩, c _ H _ t Kp.refl (rvI _) q⟩
theorem cb_lenL {a : Sl} {ds : List PyData} (h : LstSl T a ds) (q : Q (.dat (.int ds.length))) : CBk B T (rLenA B.K) [a] Q := fun xs H k t r c => by
  obtain ⟨x, rfl, r1⟩ := r.one
  obtain ⟨a, ys, rfl, hs, ra⟩ := h.get t r1
  exact ⟨_, ds.length, rfl, .inl ⟨ys, .inl (.inl hs), ra.length.symm⟩, c _ H _ t Kp.refl (rvI _) q⟩
/-- isinstance -/
def isA (d : PyData) (n : String) : Option Bool := match d with
  | .bool _ => kitB "bool" n
  | .int _ => kitB "int" n
  | .str _ => kitB "str" n
  | .tuple _ => kitB "tuple" n
  | _ => none
theorem cb_isi {d : PyData} {n : String} {b : Bool} (h : isA d n = some b) (q : Q (.dat (.bool b))) : CBk B T (rIsi B.K) [.dat d, .ty n] Q := fun xs H k t r c => by
  obtain ⟨x, y, rfl, r1, r2⟩ := r.two
  cases (show y = .ty n from r2)
  have r1' : Rp B.K H x d := r1
  cases r1' with
  | non => cases h
  | bl v => exact ⟨_, _, _, _, b, rfl, .ty n, .base (.bl v), kit_ty h, c _ H _ t Kp.refl (rvB _) q⟩
  | int v => exact ⟨_, _, _, _, b, rfl, .ty n, .base (.int v), kit_ty h, c _ H _ t Kp.refl (rvB _) q⟩
  | str v => exact ⟨_, _, _, _, b, rfl, .ty n, .base (.str v), kit_ty h, c _ H _ t Kp.refl (rvB _) q⟩
  | @tup a0 _ _ hs _ =>
    have ty : TyX B.K H (.ref a0) (.type "tuple") := by
      rcases hs with (hs | ⟨o, hs⟩) | ⟨o, its, m, hk, hc, _⟩
      · exact .base (.tup hs)
      · exact .fTuple hs
      · exact .kTuple hk hc
    exact ⟨_, _, _, _, b, rfl, .ty n, ty, kit_ty h, c _ H _ t Kp.refl (rvB _) q⟩
theorem rp_bools {K : PySem.W.Frag} {H : Hp} : ∀ {xs : List V} {bs : List Bool}, RpAll K H xs (bs.map .bool) → xs = bs.map V.bl
  | _, [], h => by cases h; rfl
  | _, b :: bs, h => by
    cases h with
    | cons h1 h2 =>
      cases h1
      rw [rp_bools h2]
      rfl
theorem cb_all {bs : List Bool} (q : Q (.dat (.bool (bs.all id)))) : CBk B T (rAll B.K) [.new (bs.map .bool)] Q := fun xs H k t r c => by
  obtain ⟨x, rfl, r1⟩ := r.one
  obtain ⟨a, ys, rfl, _, _, e, ra⟩ := r1
  exact ⟨a, bs, rfl, .inl (.inl (by rw [e, rp_bools ra])), c _ H _ t Kp.refl (rvB _) q⟩
abbrev rTupOf (K : PySem.W.Frag) : List V → Hp → VK → Prop := fun xs H Q => ∃ p ys, xs = [.ref p] ∧ ((SqL K H p ys ∧ ∀ l, H l = none → Q (.ref l) (upd H l (.tup ys))) ∨ (SqT K H p ys ∧ Q (.ref p) H))
theorem cb_tupOf {ds : List PyData} (q : Q (.dat (.tuple ds))) : CBk B T (rTupOf B.K) [.new ds] Q := fun xs H k t r c => by
  obtain ⟨x, rfl, r1⟩ := r.one
  obtain ⟨a, ys, rfl, _, _, e, ra⟩ := r1
  refine ⟨a, ys, rfl, .inl ⟨.inl (.inl e), fun l hl => ?_⟩⟩
  have k2 : Kp T H (upd H l (.tup ys)) := Kp.new hl
  exact c _ _ _ (t.laid hl) k2 (rvD <| .tup (.inl (.inl upd_same)) (ra.mono (t.tk k2))) q
abbrev rLstOf (K : PySem.W.Frag) : List V → Hp → VK → Prop := fun xs H Q => ∃ p ys, xs = [.ref p] ∧ (SqL K H p ys ∨ SqT K H p ys) ∧ ∀ l, H l = none → Q (.ref l) (upd H l (.lst ys))
theorem cb_lstOf {a : Sl} {ds : List PyData} (h : LstSl T a ds) (q : Q (.new ds)) : CBk B T (rLstOf B.K) [a] Q := fun xs H k t r c => by
  obtain ⟨x, rfl, r1⟩ := r.one
  obtain ⟨a, ys, rfl, e, ra⟩ := h.get t r1
  refine ⟨a, ys, rfl, .inl (.inl (.inl e)), fun l hl => ?_⟩
  have k2 : Kp T H (upd H l (.lst ys)) := Kp.new hl
  obtain ⟨n1, n2⟩ := t.newp hl
  exact c _ _ _ (t.laid hl) k2 (rvN n1 n2 upd_same (ra.mono (t.tk k2))) q
theorem cb_repr {ds : List PyData} (h1 : (PyData.list ds).showable = true) (h2 : (PyData.list ds).hasDict = false) (h3 : (PyData.list ds).depth ≤ 64) (h4 : (PyData.list ds).shown.length ≤ sizeLine) {a : Sl} (ha : LstSl T a ds) (q : Q (.dat (.str (PyData.list ds).shown))) : CBk B T (rRepr B.K) [a] Q := fun xs H k t r c => by
  obtain ⟨x, rfl, r1⟩ := r.one
  obtain ⟨a, ys, rfl, e, ra⟩ := ha.get t r1
  exact ⟨a, .list ds, rfl, .lst (.inl (.inl e)) ra.dp, h1, h2, h3, h4, c _ H _ t Kp.refl (rvS _) q⟩
/-- x.bit_length() -/
theorem ev_bits (h : EvT B T te Γ fun s => ∃ i, s = .dat (.int i) ∧ Q (.dat (.int (Builtin.Int.intBits i : Nat)))) : EvT B T (tBits te) Γ Q := fun σ H k o c => h σ H _ o fun v H' s o' kp rv ⟨i, e, q⟩ => by
  subst e
  exact ⟨i, rv.int_inv, c _ H' _ o' kp (rvI _) q⟩
/-- t[lo:hi] of a tuple, not the whole -/
theorem ev_slT {tl th : TO} {lo hi : Option Int} {n : Nat} (hl : ∀ (σ : L2.St) (H : Hp) (k : Option Int → Hp → Prop), k lo H → tl σ H k) (hh : ∀ (σ : L2.St) (H : Hp) (k : Option Int → Hp → Prop), k hi H → th σ H k)
    (hn : ¬ (HT.sIx n 0 lo = 0 ∧ HT.sIx n n hi = n)) (h : EvT B T te Γ fun s => ∃ ds es, s = .dat (.tuple ds) ∧ ds.length = n ∧ (ds.drop (HT.sIx n 0 lo)).take (HT.sIx n n hi - HT.sIx n 0 lo) = es ∧ Q (.dat (.tuple es))) : EvT B T (tSl (rSlT B.K) te tl th) Γ Q := fun σ H k o c => h σ H _ o fun v H' s o' kp rv ⟨ds, es, e, hd, he, q⟩ => by
  subst e
  subst hd
  obtain ⟨a, xs, rfl, hs, ra⟩ := rv.tup_inv
  refine hl σ H' _ (hh σ H' _ ⟨a, xs, rfl, hs, by rw [ra.length]; exact hn, fun p hp => ?_⟩)
  have k2 : Kp T H' (upd H' p (.tup (cutV xs lo hi))) := Kp.new hp
  have rc : RpAll B.K H' (cutV xs lo hi) es := by
    unfold cutV
    rw [ra.length, ← he]
    exact (ra.drop _).take _
  exact c _ _ _ (o'.kp (o'.t.laid hp) k2) (kp.trans k2) (rvD <| .tup (.inl (.inl upd_same)) (rc.mono (o'.t.tk k2))) q
theorem sl_no (σ : L2.St) (H : Hp) (k : Option Int → Hp → Prop) (h : k none H) : tNoPart σ H k := h
theorem sl_int (i : Int) (σ : L2.St) (H : Hp) (k : Option Int → Hp → Prop) (h : k (some i) H) : tPart (tC (.int i)) σ H k := ⟨i, rfl, h⟩
/-- l[::-1] -/
theorem ev_rev (h : EvT B T te Γ fun s => ∃ ds, LstSl T s ds ∧ Q (.new ds.reverse)) : EvT B T (tRevL B.K te) Γ Q := fun σ H k o c => h σ H _ o fun v H' s o' kp rv ⟨ds, hl, q⟩ => by
  obtain ⟨a, ys, rfl, e, ra⟩ := hl.get o'.t rv
  refine ⟨a, ys, rfl, .inl (.inl e), fun p hp => ?_⟩
  have k2 : Kp T H' (upd H' p (.lst ys.reverse)) := Kp.new hp
  obtain ⟨n1, n2⟩ := o'.t.newp hp
  exact c _ _ _ (o'.kp (o'.t.laid hp) k2) (kp.trans k2) (rvN n1 n2 upd_same (ra.reverse.mono (o'.t.tk k2))) q
/-- l.append(x), l a list of one's own -/
theorem es_append {R : Sl → Th → Prop} {N : List Sl → Th → Prop} {ta : TE} (h : EvT B T ta Γ fun s => ∃ a T1 T2 ds, s = .ref a ∧ T = T1 ++ (a, Cell.own ds) :: T2 ∧ ds.length ≤ 999 ∧ EvT B T te Γ fun s2 => ∃ d, s2 = .dat d ∧ N Γ (T1 ++ (a, Cell.own (ds ++ [d])) :: T2)) :
    EvS B T (tDrop (tBM B.K "list" rAppend ta (tCons te tNil))) Γ N R := fun σ H D o c1 c2 => h σ H _ o fun v H' s o' kp rv ⟨a, T1, T2, ds, e, eT, hl, q⟩ => by
  subst e
  cases (show v = .ref a from rv)
  have hma : (a, Cell.own ds) ∈ T := by rw [eT]; simp
  obtain ⟨_, xs0, e0, _⟩ := o'.t.cells _ hma
  refine ⟨.inl ⟨rfl, _, .inl (.inl e0)⟩, ?_⟩
  refine q σ H' _ o' fun y H2 ss o2 kp2 ry ⟨d, e1, hN⟩ => ?_
  subst e1
  obtain ⟨z0, xs, ex, rx⟩ := o2.t.cells _ hma
  refine ⟨a, xs, y, rfl, rfl, ex, small1000 (by rw [rx.length]; omega), ?_⟩
  have tkU : TK B.K H2 (upd H2 a (.lst (xs ++ [y]))) := fun b ys hs => by
    have kk : ∀ ob, H2 b = some ob → (∀ zs, ob ≠ .lst zs) → upd H2 a (.lst (xs ++ [y])) b = some ob := fun ob e n => by
      rw [upd_ne (fun z => by rw [z, ex] at e; exact n _ (Option.some.inj e).symm)]
      exact e
    rcases hs with (hs | ⟨ob, hs⟩) | hs
    · exact .inl (.inl (kk _ hs fun ys z => nomatch z))
    · exact .inl (.inr ⟨ob, kk _ hs fun ys z => nomatch z⟩)
    · exact .inr hs
  have nd := o2.t.nd
  have hnd : a ∉ T1.map (·.1) ∧ a ∉ T2.map (·.1) := by
    rw [eT, List.map_append, List.map_cons, List.nodup_append] at nd
    obtain ⟨_, n2, n3⟩ := nd
    refine ⟨fun z => n3 a z a List.mem_cons_self rfl, ?_⟩
    rw [List.nodup_cons] at n2
    exact n2.1
  have nq : ∀ q : Addr × Cell, q ∈ T1 ∨ q ∈ T2 → q.1 ≠ a := fun q hq z => by
    rcases hq with hq | hq
    · exact hnd.1 (by rw [← z]; exact List.mem_map.mpr ⟨_, hq, rfl⟩)
    · exact hnd.2 (by rw [← z]; exact List.mem_map.mpr ⟨_, hq, rfl⟩)
  refine c1 σ _ Γ _ ⟨⟨?_, fun q hq => ?_, fun b hb => ?_, ?_⟩, o2.s.mono tkU⟩ hN
  · rw [eT, List.map_append, List.map_cons] at nd
    rw [List.map_append, List.map_cons]
    exact nd
  · have old : q ∈ T1 ∨ q ∈ T2 → CellOk B (upd H2 a (.lst (xs ++ [y]))) q.1 q.2 := fun hq => by
      have hc := o2.t.cells q (by rw [eT]; rcases hq with hq | hq <;> simp [hq])
      exact hc.of_same (upd_ne (nq q hq)) tkU
    rcases List.mem_append.mp hq with hq | hq
    · exact old (.inl hq)
    · rcases List.mem_cons.mp hq with rfl | hq
      · exact ⟨z0, xs ++ [y], upd_same, (rx.mono tkU).append (.cons (Rp.mono tkU ry) .nil)⟩
      · exact old (.inr hq)
  · have hw := o2.t.as b hb
    rw [eT] at hw
    rcases List.mem_append.mp hw with hw | hw
    · exact List.mem_append_left _ hw
    · rcases List.mem_cons.mp hw with z | hw
      · have := (Prod.mk.inj z).2
        cases this
      · exact List.mem_append_right _ (List.mem_cons_of_mem _ hw)
  · intro b ob nb e
    have h1 := o2.t.keep b ob nb e
    rw [upd_ne (fun z => by rw [z, z0] at e; cases e)]
    exact h1
end
end Pl
end
section
set_option Elab.async false
set_option linter.all false
set_option maxRecDepth 100000
set_option autoImplicit false
/-! the text, what the top leaves, promises by name -/
namespace Pl
open PySem PySem.Spec PyProof.Rows L2

/-- a def as the top leaves it -/
structure Dfn (K : PySem.W.Frag) (mg : Str → Option Value) (x : Str) (st : Stmt) : Prop where
  fn : ∃ fd, FunD K x x (defArgs st) (defBody st) (defScope st) [] [] (He.ga K x) fd
  gl : mg x = some (.ref (He.ga K x))
structure Tx (K : PySem.W.Frag) (mg : Str → Option Value) : Prop where
  all : ∀ q ∈ defs, Dfn K mg q.1 q.2
  frs : ∀ x ∈ frees, mg x = none
  gcd : mg "gcd" = some (.builtin "math.gcd")
  isqrt : mg "isqrt" = some (.builtin "math.isqrt")
  zero : mg "ZERO" = some (.ref (He.ga K "ZERO"))
  one : mg "ONE" = some (.ref (He.ga K "ONE"))
  two : mg "TWO" = some (.ref (He.ga K "TWO"))
  zeroT : ∀ H, SqT K H (He.ga K "ZERO") [.int 0, .int 1]
  oneT : ∀ H, SqT K H (He.ga K "ONE") [.int 1, .int 1]
  twoT : ∀ H, SqT K H (He.ga K "TWO") [.int 2, .int 1]
section
variable {P : Program} {w : World} {K : PySem.W.Frag} {mg : Str → Option Value} {base : Heap}
theorem Tx.dfn (T : Tx K mg) (i : Nat) {x : Str} {st : Stmt} (h : defs[i]? = some (x, st)) : Dfn K mg x st := T.all (x, st) (List.mem_of_getElem? h)
theorem Tx.free (T : Tx K mg) (x : Str) (h : x ∈ frees := by decide) : mg x = none := T.frs x h
theorem cxK {CX : CXT} {P : Program} {w : World} {K : PySem.W.Frag} {mg : Str → Option Value} {base : Heap} {N : List Str} {q : Str} {sc : Scope} {f : Addr} {cd : Value} {A : Around} {outer : List Env} {s : Shared} {H : Hp} {E : XK} : (cxOf CX P w K mg base N q sc f cd A outer s H E).nox.K = K := rfl
theorem cxN {CX : CXT} {P : Program} {w : World} {K : PySem.W.Frag} {mg : Str → Option Value} {base : Heap} {N : List Str} {q : Str} {sc : Scope} {f : Addr} {cd : Value} {A : Around} {outer : List Env} {s : Shared} {H : Hp} {E : XK} : (cxOf CX P w K mg base N q sc f cd A outer s H E).K = K := rfl
/-- a def that keeps a promise, by its name -/
structure Gd (P : Program) (w : World) (K : PySem.W.Frag) (mg : Str → Option Value) (base : Heap) (k : Nat) (x : Str) (ps : List Str) (sp : Sp) : Prop where
  ok : ∃ fd, FnOk P w K mg base CX0 k (He.ga K x) fd ps sp ∧ Binds K fd ps [] ∧ PySem.W.keepIn K (.ref (He.ga K x)) = true
  gl : mg x = some (.ref (He.ga K x))
theorem pe_callG {X : Cx} {x : Str} {k : Nat} {ps : List Str} {sp : Sp} {p pos : Pos} {e : Expr} {es : List Expr} {t : TA} (G : Gd X.prog X.w X.K X.mg X.base k x ps sp) (hr : Room k X.A) (hg : Gl X x) (ha : PA X (e :: es) t)
    (nd : (x == ("__debug__" : Str)) = false := by decide) (st : starEach (e :: es) X.env = (false, eval e X.env) :: starEach es X.env := by rfl) (pl : (backTo pos (starEach es X.env)).any (·.1) = false := by rfl) :
    PE X (.Call (.Name x p) (e :: es) [] pos) (tCall sp [] E0 t) := by
  obtain ⟨fd, F, b, kp⟩ := G.ok
  exact pe_call F hr hg G.gl kp b .nil pass0 ha nd st pl
/-- how plain parameters bind -/
def BindsOf (x : Str) (st : Stmt) (ps : List Str) : Prop := ∀ (kV doc pm : Value) (an : Option Addr) (cdv ct : Value) (us : List Value), us.length = ps.length → bindArgs (PySem.W.fnOf x x (defArgs st) (defBody st) (defScope st) .none kV doc pm an cdv ct) ⟨us, []⟩ = pure (ps.zip us)
theorem Dfn.gd {x : Str} {st : Stmt} {N ps : List Str} {k : Nat} {sp : Sp} (D : Dfn K mg x st) (Sc : FnScope N ps (defScope st)) (hb : BindsOf x st ps) (len : ∀ vs H Q E, sp vs H Q E → vs.length = ps.length)
    (hbody : ∀ (f : Addr) (cdv : Value) (A : Around) (outer : List Env) (s : Shared) (H : Hp) (E : XK), Room k (A.deeper (envOfC x (defScope st) s.heap.objs.size f cdv)) →
      ∃ t, PSs (cxOf CX0 P w K mg base N x (defScope st) f cdv A outer s H E).nox (defBody st) t ∧ ∀ vs Q, sp vs H Q E → t { nx := fun _ H' => Q .non H', rt := Q } (L2.start N vs) H) : Gd P w K mg base (k + 1) x ps sp := by
  obtain ⟨fd, F⟩ := D.fn
  refine ⟨⟨fd, F.ok Sc len fun cdv A outer s H vs Q E hr h => ?_, F.bindsN hb, F.kp⟩, D.gl⟩
  obtain ⟨t, h1, h2⟩ := hbody _ cdv A outer s H E hr
  exact ⟨t, h1.nox, h2 vs Q h⟩
theorem Dfn.gdP {x : Str} {st : Stmt} {N ps : List Str} {k : Nat} {S : List PyData → PyData → Prop} (D : Dfn K mg x st) (Sc : FnScope N ps (defScope st)) (hb : BindsOf x st ps) (hS : ∀ ds d, S ds d → ds.length = ps.length) (hn : ps.length ≤ N.length)
    (hbody : ∀ (f : Addr) (cdv : Value) (A : Around) (outer : List Env) (s : Shared) (H : Hp) (E : XK), Room k (A.deeper (envOfC x (defScope st) s.heap.objs.size f cdv)) →
      ∃ t, PSs (cxOf CX0 P w K mg base N x (defScope st) f cdv A outer s H E).nox (defBody st) t ∧ ∀ ds d, S ds d → EvS ⟨K, [], H⟩ [] t (ds.map .dat ++ List.replicate (N.length - ds.length) .no) (fun _ _ => d = .none) (fun s _ => s = .dat d)) : Gd P w K mg base (k + 1) x ps (spP K S) := by
  refine D.gd Sc hb (fun vs H Q E h => ?_) fun f cdv A outer s H E hr => ?_
  · obtain ⟨ds, d, r, hs, _⟩ := h
    rw [r.length, hS ds d hs]
  · obtain ⟨t, h1, h2⟩ := hbody f cdv A outer s H E hr
    exact ⟨t, h1, fun vs Q h => body_P hn h hS h2⟩
theorem Dfn.gdL {x : Str} {st : Stmt} {N ps : List Str} {k : Nat} {S : List PyData → List PyData → Prop} (D : Dfn K mg x st) (Sc : FnScope N ps (defScope st)) (hb : BindsOf x st ps) (hS : ∀ ds d, S ds d → ds.length = ps.length) (hn : ps.length ≤ N.length)
    (hbody : ∀ (f : Addr) (cdv : Value) (A : Around) (outer : List Env) (s : Shared) (H : Hp) (E : XK), Room k (A.deeper (envOfC x (defScope st) s.heap.objs.size f cdv)) →
      ∃ t, PSs (cxOf CX0 P w K mg base N x (defScope st) f cdv A outer s H E).nox (defBody st) t ∧ ∀ ds es, S ds es → EvS ⟨K, [], H⟩ [] t (ds.map .dat ++ List.replicate (N.length - ds.length) .no) (fun _ _ => False) (fun s T' => s = .new es ∨ ∃ a, s = .ref a ∧ (a, Cell.own es) ∈ T')) : Gd P w K mg base (k + 1) x ps (spL K S) := by
  refine D.gd Sc hb (fun vs H Q E h => ?_) fun f cdv A outer s H E hr => ?_
  · obtain ⟨ds, d, r, hs, _⟩ := h
    rw [r.length, hS ds d hs]
  · obtain ⟨t, h1, h2⟩ := hbody f cdv A outer s H E hr
    exact ⟨t, h1, fun vs Q h => body_L hn h hS h2⟩
theorem Dfn.gdW {x : Str} {st : Stmt} {N ps : List Str} {k n : Nat} {S : List PyData → (PyData → Prop) → Prop} (D : Dfn K mg x st) (Sc : FnScope N ps (defScope st)) (hb : BindsOf x st ps) (hS : ∀ ds P, S ds P → ds.length = n) (hp : ps.length = n + 1) (hn : n + 1 ≤ N.length)
    (hbody : ∀ (f : Addr) (cdv : Value) (A : Around) (outer : List Env) (s : Shared) (H : Hp) (E : XK), Room k (A.deeper (envOfC x (defScope st) s.heap.objs.size f cdv)) →
      ∃ t, PSs (cxOf CX0 P w K mg base N x (defScope st) f cdv A outer s H E).nox (defBody st) t ∧ ∀ v ds P, S ds P → EvS ⟨K, [v], H⟩ [(v, .well)] t (.ref v :: (ds.map .dat ++ List.replicate (N.length - (ds.length + 1)) .no)) (fun _ _ => False) (fun s _ => ∃ d, s = .dat d ∧ P d)) : Gd P w K mg base (k + 1) x ps (spW K S) := by
  refine D.gd Sc hb (fun vs H Q E h => ?_) fun f cdv A outer s H E hr => ?_
  · obtain ⟨v, vs', ds, P, rfl, _, r, hs, _⟩ := h
    rw [List.length_cons, r.length, hS ds P hs, hp]
  · obtain ⟨t, h1, h2⟩ := hbody f cdv A outer s H E hr
    exact ⟨t, h1, fun vs Q h => body_W hn h hS h2⟩
theorem Dfn.gdWL {x : Str} {st : Stmt} {N ps : List Str} {k : Nat} {S : List PyData → (PyData → Prop) → Prop} (D : Dfn K mg x st) (Sc : FnScope N ps (defScope st)) (hb : BindsOf x st ps) (hp : ps.length = 2) (hn : 2 ≤ N.length)
    (hbody : ∀ (f : Addr) (cdv : Value) (A : Around) (outer : List Env) (s : Shared) (H : Hp) (E : XK), Room k (A.deeper (envOfC x (defScope st) s.heap.objs.size f cdv)) →
      ∃ t, PSs (cxOf CX0 P w K mg base N x (defScope st) f cdv A outer s H E).nox (defBody st) t ∧ ∀ v a ds P, S ds P → EvS ⟨K, [v], H⟩ [(v, .well), (a, .lst ds)] t (.ref v :: .ref a :: List.replicate (N.length - 2) .no) (fun _ _ => False) (fun s _ => ∃ d, s = .dat d ∧ P d)) : Gd P w K mg base (k + 1) x ps (spWL K S) := by
  refine D.gd Sc hb (fun vs H Q E h => ?_) fun f cdv A outer s H E hr => ?_
  · obtain ⟨v, a, xs, ds, P, rfl, _⟩ := h
    rw [hp]
    rfl
  · obtain ⟨t, h1, h2⟩ := hbody f cdv A outer s H E hr
    exact ⟨t, h1, fun vs Q h => body_WL hn h h2⟩
/-- the constants -/
theorem Tx.rpZero (T : Tx K mg) (H : Hp) : Rp K H (.ref (He.ga K "ZERO")) (.tuple [.int 0, .int 1]) := .tup (T.zeroT H) (.cons (.int 0) (.cons (.int 1) .nil))
theorem Tx.rpOne (T : Tx K mg) (H : Hp) : Rp K H (.ref (He.ga K "ONE")) (.tuple [.int 1, .int 1]) := .tup (T.oneT H) (.cons (.int 1) (.cons (.int 1) .nil))
theorem Tx.rpTwo (T : Tx K mg) (H : Hp) : Rp K H (.ref (He.ga K "TWO")) (.tuple [.int 2, .int 1]) := .tup (T.twoT H) (.cons (.int 2) (.cons (.int 1) .nil))
end
end Pl
end
section
set_option Elab.async false
set_option linter.all false
set_option autoImplicit false
/-! fractions, plainly -/
namespace Pl
abbrev Qn := Int × Int
/-- the reduced fraction -/
def ratio (t l : Int) : Qn := (t / (Nat.gcd t.natAbs l.natAbs : Int), l / (Nat.gcd t.natAbs l.natAbs : Int))
/-- reduced, the second above 0 -/
def Red (x : Qn) : Prop := 0 < x.2 ∧ Nat.gcd x.1.natAbs x.2.natAbs = 1
/-- x is N / D -/
structure VB (x : Qn) (N D : Int) : Prop where
  red : Red x
  pos : 0 < D
  eq : x.1 * D = N * x.2
theorem gcd_pos_of {t l : Int} (h : 0 < l) : (0 : Int) < (Nat.gcd t.natAbs l.natAbs : Int) := by
  have : 0 < Nat.gcd t.natAbs l.natAbs := Nat.gcd_pos_of_pos_right _ (by omega)
  omega
theorem dvd_l (t l : Int) : (Nat.gcd t.natAbs l.natAbs : Int) ∣ t := by
  have := Nat.gcd_dvd_left t.natAbs l.natAbs
  exact Int.ofNat_dvd_left.mpr this
theorem dvd_r (t l : Int) : (Nat.gcd t.natAbs l.natAbs : Int) ∣ l := Int.ofNat_dvd_left.mpr (Nat.gcd_dvd_right t.natAbs l.natAbs)
theorem ratio_mul {t l : Int} (h : 0 < l) : t = (Nat.gcd t.natAbs l.natAbs : Int) * (ratio t l).1 ∧ l = (Nat.gcd t.natAbs l.natAbs : Int) * (ratio t l).2 :=
  ⟨(Int.mul_ediv_cancel' (dvd_l t l)).symm, (Int.mul_ediv_cancel' (dvd_r t l)).symm⟩
theorem ratio_vb {t l : Int} (h : 0 < l) : VB (ratio t l) t l := by
  obtain ⟨h1, h2⟩ := ratio_mul (t := t) h
  have hg := gcd_pos_of (t := t) h
  generalize hG : (Nat.gcd t.natAbs l.natAbs : Int) = g at *
  generalize hr : ratio t l = r at *
  obtain ⟨a, b⟩ := r
  simp only at h1 h2
  have hb : 0 < b := by
    rcases Int.lt_trichotomy b 0 with z | z | z
    · exfalso
      have := Int.mul_neg_of_pos_of_neg hg z
      omega
    · subst z
      simp at h2
      omega
    · exact z
  refine ⟨⟨hb, ?_⟩, h, ?_⟩
  · show Nat.gcd a.natAbs b.natAbs = 1
    have e : Nat.gcd t.natAbs l.natAbs = g.natAbs * Nat.gcd a.natAbs b.natAbs := by
      rw [h1, h2, Int.natAbs_mul, Int.natAbs_mul, Nat.gcd_mul_left]
    have e2 : Nat.gcd t.natAbs l.natAbs = g.natAbs := by omega
    have hp : 0 < g.natAbs := by omega
    rw [e2] at e
    exact Nat.eq_of_mul_eq_mul_left hp (by omega)
  · show a * l = t * b
    rw [h1, h2]
    rw [← Int.mul_assoc, Int.mul_comm a g]
/-- a reduced fraction is no greater than any that is alike -/
theorem VB.le {x : Qn} {N D : Int} (h : VB x N D) : ∃ k : Int, 0 < k ∧ N = k * x.1 ∧ D = k * x.2 := by
  obtain ⟨⟨hp, hg⟩, hD, e⟩ := h
  have hd : x.2 ∣ D := by
    have h1 : x.2.natAbs ∣ x.1.natAbs * D.natAbs := by
      rw [← Int.natAbs_mul, e, Int.natAbs_mul]
      exact Nat.dvd_mul_left _ _
    have hc : Nat.Coprime x.2.natAbs x.1.natAbs := by rw [Nat.Coprime, Nat.gcd_comm]; exact hg
    have := hc.dvd_of_dvd_mul_left h1
    exact Int.natAbs_dvd_natAbs.mp this
  obtain ⟨k, hk⟩ := hd
  refine ⟨k, ?_, ?_, ?_⟩
  · rcases Int.lt_trichotomy k 0 with z | z | z
    · exfalso
      have := Int.mul_neg_of_pos_of_neg hp z
      omega
    · subst z
      simp at hk
      omega
    · exact z
  · have h2 : x.2 * (k * x.1) = x.2 * N := by
      rw [hk] at e
      grind
    exact (Int.eq_of_mul_eq_mul_left (by omega) h2).symm
  · rw [hk, Int.mul_comm]
theorem VB.b1 {x : Qn} {N D : Int} (h : VB x N D) : x.1.natAbs ≤ N.natAbs := by
  obtain ⟨k, hk, e, _⟩ := h.le
  rw [e, Int.natAbs_mul]
  exact Nat.le_mul_of_pos_left _ (by omega)
theorem VB.b2 {x : Qn} {N D : Int} (h : VB x N D) : x.2.natAbs ≤ D.natAbs := by
  obtain ⟨k, hk, _, e⟩ := h.le
  rw [e, Int.natAbs_mul]
  exact Nat.le_mul_of_pos_left _ (by omega)
theorem VB.uniq {x y : Qn} {N D : Int} (h : VB x N D) (g : VB y N D) : x = y := by
  have hy : VB x y.1 y.2 := by
    refine ⟨h.red, g.red.1, ?_⟩
    have h1 := h.eq
    have h2 := g.eq
    have hD := h.pos
    have : D * (x.1 * y.2) = D * (y.1 * x.2) := by grind
    exact Int.eq_of_mul_eq_mul_left (by omega) this
  have hx : VB y x.1 x.2 := ⟨g.red, h.red.1, by have := hy.eq; grind⟩
  have a1 := hy.b1
  have a2 := hy.b2
  have b1 := hx.b1
  have b2 := hx.b2
  have p1 := h.red.1
  have p2 := g.red.1
  have e2 : x.2 = y.2 := by omega
  have e := hy.eq
  rw [e2] at e
  have e1 : x.1 = y.1 := Int.eq_of_mul_eq_mul_right (by omega) e
  exact Prod.ext e1 e2
theorem VB.conv {x : Qn} {N D N' D' : Int} (h : VB x N D) (hp : 0 < D') (e : N * D' = N' * D) : VB x N' D' := by
  refine ⟨h.red, hp, ?_⟩
  have h1 := h.eq
  have hD := h.pos
  have : D * (x.1 * D') = D * (N' * x.2) := by grind
  exact Int.eq_of_mul_eq_mul_left (by omega) this
theorem Red.vb {x : Qn} (h : Red x) : VB x x.1 x.2 := ⟨h, h.1, rfl⟩
theorem ratio_of_vb {x : Qn} {N D : Int} (h : VB x N D) : ratio N D = x := (ratio_vb h.pos).uniq h
/-- sizes -/
def Sz (n : Nat) (x : Int) : Prop := x.natAbs < 2 ^ n
theorem Sz.mul {a b : Nat} {x y : Int} (h : Sz a x) (g : Sz b y) : Sz (a + b) (x * y) := by
  unfold Sz at *
  rw [Int.natAbs_mul, Nat.pow_add]
  exact Nat.mul_lt_mul'' h g
theorem Sz.mono {a b : Nat} {x : Int} (h : Sz a x) (l : a ≤ b) : Sz b x := Nat.lt_of_lt_of_le h (Nat.pow_le_pow_right (by decide) l)
theorem Sz.le {a : Nat} {x y : Int} (h : Sz a x) (l : y.natAbs ≤ x.natAbs) : Sz a y := Nat.lt_of_le_of_lt l h
theorem Sz.add {a b : Nat} {x y : Int} (h : Sz a x) (g : Sz b y) : Sz (max a b + 1) (x + y) := by
  have h1 := h.mono (Nat.le_max_left a b)
  have h2 := g.mono (Nat.le_max_right a b)
  unfold Sz at *
  rw [Nat.pow_succ]
  have := Int.natAbs_add_le x y
  omega
theorem Sz.neg {a : Nat} {x : Int} (h : Sz a x) : Sz a (-x) := by
  unfold Sz at *
  rw [Int.natAbs_neg]
  exact h
theorem Sz.sub {a b : Nat} {x y : Int} (h : Sz a x) (g : Sz b y) : Sz (max a b + 1) (x - y) := by
  rw [Int.sub_eq_add_neg]
  exact h.add g.neg
theorem sz_0 : Sz 1 0 := by unfold Sz; decide
theorem sz_1 : Sz 1 1 := by unfold Sz; decide
theorem sz_2 : Sz 2 2 := by unfold Sz; decide
theorem sz_4 : Sz 3 4 := by unfold Sz; decide
theorem sz_m1 : Sz 1 (-1) := by unfold Sz; decide
theorem VB.s1 {x : Qn} {N D : Int} {n : Nat} (h : VB x N D) (s : Sz n N) : Sz n x.1 := s.le h.b1
theorem VB.s2 {x : Qn} {N D : Int} {n : Nat} (h : VB x N D) (s : Sz n D) : Sz n x.2 := s.le h.b2
/-- sums, products -/
def qadd (x y : Qn) : Qn := ratio (x.1 * y.2 + y.1 * x.2) (x.2 * y.2)
def qsub (x y : Qn) : Qn := ratio (x.1 * y.2 - y.1 * x.2) (x.2 * y.2)
def qmul (x y : Qn) : Qn := ratio (x.1 * y.1) (x.2 * y.2)
theorem qadd_vb {x y : Qn} {N D M E : Int} (h : VB x N D) (g : VB y M E) : VB (qadd x y) (N * E + M * D) (D * E) := by
  refine (ratio_vb (Int.mul_pos h.red.1 g.red.1)).conv (Int.mul_pos h.pos g.pos) ?_
  have := h.eq
  have := g.eq
  grind
theorem qsub_vb {x y : Qn} {N D M E : Int} (h : VB x N D) (g : VB y M E) : VB (qsub x y) (N * E - M * D) (D * E) := by
  refine (ratio_vb (Int.mul_pos h.red.1 g.red.1)).conv (Int.mul_pos h.pos g.pos) ?_
  have := h.eq
  have := g.eq
  grind
theorem qmul_vb {x y : Qn} {N D M E : Int} (h : VB x N D) (g : VB y M E) : VB (qmul x y) (N * M) (D * E) := by
  refine (ratio_vb (Int.mul_pos h.red.1 g.red.1)).conv (Int.mul_pos h.pos g.pos) ?_
  have := h.eq
  have := g.eq
  grind
end Pl
end
section
set_option Elab.async false
set_option linter.all false
set_option autoImplicit false
/-! what the program reckons, plainly -/
namespace Pl
open PySem L2
theorem mulok {a b : Nat} {i j : Int} (ha : Sz a i) (hb : Sz b j) (h : a + b ≤ 900000) : CMulW i j :=
  wide_mul (ha.mono (Nat.le_add_right a 1)) (hb.mono (Nat.le_add_right b 1)) (Nat.succ_pos _) (Nat.succ_pos _) (by omega)
/-- C divides both by their gcd by itself -/
def Dok (t l : Int) : Prop := Sz 9000 l ∨ (Sz 13000 t ∧ Sz 13000 l)
def sgn (i : Int) : Int := if 0 < i then 1 else if i < 0 then -1 else 0
def isq (n : Int) : Int := ((Float64.isqrt n.toNat : Nat) : Int)
def isSq (n : Int) : Bool := decide (isq n * isq n = n)
/-- what *, +, - of fractions ask -/
structure MulC (x y : Qn) : Prop where
  p1 : 0 < x.2
  p2 : 0 < y.2
  m1 : CMulW x.1 y.1
  m2 : CMulW x.2 y.2
  d : Dok (x.1 * y.1) (x.2 * y.2)
structure AddC (x y : Qn) : Prop where
  p1 : 0 < x.2
  p2 : 0 < y.2
  m1 : CMulW x.1 y.2
  m2 : CMulW y.1 x.2
  m3 : CMulW x.2 y.2
  d : Dok (x.1 * y.2 + y.1 * x.2) (x.2 * y.2)
structure SubC (x y : Qn) : Prop where
  p1 : 0 < x.2
  p2 : 0 < y.2
  m1 : CMulW x.1 y.2
  m2 : CMulW y.1 x.2
  m3 : CMulW x.2 y.2
  d : Dok (x.1 * y.2 - y.1 * x.2) (x.2 * y.2)
/-- a number -/
inductive Num where
  | fr (x : Qn)
  | rt (p q s : Int) (up : Bool)
def disc (p q s : Int) : Int := q * q - 4 * p * s
/-- .. as it should be, of n bits -/
def NumOk (n : Nat) : Num → Prop
  | .fr x => Red x ∧ Sz n x.1 ∧ Sz n x.2
  | .rt p q s _ => 0 < p ∧ Nat.gcd (Nat.gcd p.natAbs q.natAbs) s.natAbs = 1 ∧ 0 < disc p q s ∧ isSq (disc p q s) = false ∧ Sz n p ∧ Sz n q ∧ Sz n s
def partsOf : Num → Qn × Qn × Int
  | .fr x => (x, (0, 1), 1)
  | .rt p q s up => (ratio (-q) (2 * p), ratio (if up = true then 1 else -1) (2 * p), disc p q s)
abbrev Five := Qn × Qn × Qn × Qn × Int
def inOne (n o : Num) : Five :=
  if (partsOf n).2.1 = (0, 1) then ((partsOf n).1, (0, 1), (partsOf o).1, (partsOf o).2.1, (partsOf o).2.2)
  else ((partsOf n).1, (partsOf n).2.1, (partsOf o).1, qmul (partsOf o).2.1 (if (partsOf o).2.1 ≠ (0, 1) then ratio (isq ((partsOf n).2.2 * (partsOf o).2.2)) (partsOf n).2.2 else (1, 1)), (partsOf n).2.2)
def sign1 (x y : Qn) (r : Int) : Int :=
  if 0 ≤ sgn x.1 * (if r ≠ 0 then sgn y.1 else 0) then (if sgn x.1 ≠ 0 then sgn x.1 else (if r ≠ 0 then sgn y.1 else 0))
  else if 0 < sgn (qsub (qmul x x) (qmul (qmul y y) (r, 1))).1 then sgn x.1
  else if sgn (qsub (qmul x x) (qmul (qmul y y) (r, 1))).1 < 0 then (if r ≠ 0 then sgn y.1 else 0) else 0
structure Sg1C (x y : Qn) (r : Int) : Prop where
  c1 : MulC x x
  c2 : MulC y y
  c3 : MulC (qmul y y) (r, 1)
  c4 : SubC (qmul x x) (qmul (qmul y y) (r, 1))
/-- a curve -/
inductive Cv where
  | line (a b c : Qn)
  | circ (x y q : Qn)
def CvOk : Cv → Prop
  | .line a b c => Red a ∧ Red b ∧ Red c ∧ (a ≠ (0, 1) ∨ b ≠ (0, 1))
  | .circ x y q => Red x ∧ Red y ∧ Red q ∧ 0 < q.1
def signBy : Cv → Five → Int
  | .line a b c, (p, q, s, t, r) => sign1 (qsub (qadd (qmul a p) (qmul b s)) c) (qadd (qmul a q) (qmul b t)) r
  | .circ x y k, (p, q, s, t, r) => sign1 (qsub (qadd (qadd (qmul (qsub p x) (qsub p x)) (qmul (qsub s y) (qsub s y))) (qmul (qadd (qmul q q) (qmul t t)) (r, 1))) k)
      (qmul (2, 1) (qadd (qmul (qsub p x) q) (qmul (qsub s y) t))) r
/-- what the steps of signBy ask -/
def SbC : Cv → Five → Prop
  | .line a b c, (p, q, s, t, r) => MulC a p ∧ MulC b s ∧ AddC (qmul a p) (qmul b s) ∧ SubC (qadd (qmul a p) (qmul b s)) c ∧ MulC a q ∧ MulC b t ∧ AddC (qmul a q) (qmul b t) ∧
      Sg1C (qsub (qadd (qmul a p) (qmul b s)) c) (qadd (qmul a q) (qmul b t)) r
  | .circ x y k, (p, q, s, t, r) => SubC p x ∧ SubC s y ∧ MulC (qsub p x) (qsub p x) ∧ MulC (qsub s y) (qsub s y) ∧ AddC (qmul (qsub p x) (qsub p x)) (qmul (qsub s y) (qsub s y)) ∧
      MulC q q ∧ MulC t t ∧ AddC (qmul q q) (qmul t t) ∧ MulC (qadd (qmul q q) (qmul t t)) (r, 1) ∧
      AddC (qadd (qmul (qsub p x) (qsub p x)) (qmul (qsub s y) (qsub s y))) (qmul (qadd (qmul q q) (qmul t t)) (r, 1)) ∧
      MulC (qsub p x) q ∧ MulC (qsub s y) t ∧ AddC (qmul (qsub p x) q) (qmul (qsub s y) t) ∧ MulC (2, 1) (qadd (qmul (qsub p x) q) (qmul (qsub s y) t)) ∧
      SubC (qadd (qadd (qmul (qsub p x) (qsub p x)) (qmul (qsub s y) (qsub s y))) (qmul (qadd (qmul q q) (qmul t t)) (r, 1))) k ∧
      Sg1C (qsub (qadd (qadd (qmul (qsub p x) (qsub p x)) (qmul (qsub s y) (qsub s y))) (qmul (qadd (qmul q q) (qmul t t)) (r, 1))) k) (qmul (2, 1) (qadd (qmul (qsub p x) q) (qmul (qsub s y) t))) r
/-- what the steps of partsOf, inOne ask -/
def PtC : Num → Prop
  | .fr _ => True
  | .rt p q s _ => 0 < p ∧ Sz 40000 p ∧ Sz 40000 q ∧ Sz 40000 s ∧ Dok (-q) (2 * p) ∧ Dok 1 (2 * p) ∧ Dok (-1) (2 * p)
/-- two numbers of one field -/
def FieldC (n o : Num) : Prop := match n, o with
  | .rt p q s _, .rt p' q' s' _ => 0 < disc p q s ∧ 0 < disc p' q' s' ∧ Sz 13400 (disc p q s * disc p' q' s') ∧ isSq (disc p q s * disc p' q' s') = true
  | _, _ => True
structure InC (n o : Num) : Prop where
  p1 : PtC n
  p2 : PtC o
  fld : FieldC n o
  by_ : match n, o with
    | .rt p q s _, .rt p' q' s' _ => Dok (isq (disc p q s * disc p' q' s')) (disc p q s) ∧ MulC (partsOf o).2.1 (ratio (isq (disc p q s * disc p' q' s')) (disc p q s))
    | _, _ => True
end Pl
end
section
set_option Elab.async false
set_option linter.all false
set_option autoImplicit false
/-! what the law reckons, plainly -/
namespace Pl
open PySem L2
/-! the root by steps -/
theorem newton_ge {n x s : Nat} (hx : 0 < x) (h1 : s * s ≤ n) : s ≤ (x + n / x) / 2 := by
  refine Nat.le_of_not_lt fun z => ?_
  have hq : n < x * (n / x + 1) := by
    have := Nat.div_add_mod n x
    have := Nat.mod_lt n hx
    rw [Nat.mul_add]
    omega
  generalize n / x = q at *
  have hs : x + (q + 1) ≤ 2 * s := by omega
  have h4 : 4 * (x * (q + 1)) ≤ (x + (q + 1)) * (x + (q + 1)) := by
    generalize q + 1 = y
    rcases Nat.le_total x y with l | l
    · obtain ⟨k, rfl⟩ := Nat.exists_eq_add_of_le l
      have : (x + (x + k)) * (x + (x + k)) = 4 * (x * (x + k)) + k * k := by grind
      omega
    · obtain ⟨k, rfl⟩ := Nat.exists_eq_add_of_le l
      have : (y + k + y) * (y + k + y) = 4 * ((y + k) * y) + k * k := by grind
      omega
  have h5 : (x + (q + 1)) * (x + (q + 1)) ≤ (2 * s) * (2 * s) := Nat.mul_le_mul hs hs
  have h6 : (2 * s) * (2 * s) = 4 * (s * s) := by grind
  omega
theorem newton_le {n x s : Nat} (h2 : n < (s + 1) * (s + 1)) (hx : s < x) : n / x ≤ s := by
  have : n < x * (s + 1) := Nat.lt_of_lt_of_le h2 (Nat.mul_le_mul_right _ hx)
  have := (Nat.div_lt_iff_lt_mul (show 0 < x by omega)).mpr (by rw [Nat.mul_comm]; exact this)
  omega
/-- one turn: the value stays from s on, comes nearer by half; it stops at s -/
theorem newton_turn {n x s L j : Nat} (h1 : s * s ≤ n) (h2 : n < (s + 1) * (s + 1)) (hx : 0 < x) (hs : s ≤ x) (he : (x - s) * 2 ^ j ≤ 2 ^ L) :
    (x ≤ (x + n / x) / 2 → x = s) ∧ ((x + n / x) / 2 < x → s ≤ (x + n / x) / 2 ∧ ((x + n / x) / 2 - s) * 2 ^ (j + 1) ≤ 2 ^ L) := by
  have a := newton_ge hx h1
  refine ⟨fun h => ?_, fun h => ⟨a, ?_⟩⟩
  · refine Nat.le_antisymm (Nat.le_of_not_lt fun z => ?_) hs
    have := newton_le h2 z
    omega
  · by_cases z : s < x
    · have := newton_le h2 z
      have e : (x + n / x) / 2 - s ≤ (x - s) / 2 := by omega
      have e2 : ((x + n / x) / 2 - s) * 2 ≤ x - s := by omega
      rw [Nat.pow_succ, Nat.mul_comm (2 ^ j) 2, ← Nat.mul_assoc]
      exact Nat.le_trans (Nat.mul_le_mul_right _ e2) he
    · have : (x + n / x) / 2 - s = 0 := by omega
      rw [this, Nat.zero_mul]
      exact Nat.zero_le _
theorem newton_end {x s L j : Nat} (hs : s ≤ x) (he : (x - s) * 2 ^ j ≤ 2 ^ L) (hj : L < j) : x = s := by
  rcases Nat.eq_zero_or_pos (x - s) with z | z
  · omega
  · have h1 : 2 ^ j ≤ (x - s) * 2 ^ j := Nat.le_mul_of_pos_left _ z
    have h2 : 2 ^ L < 2 ^ j := Nat.pow_lt_pow_right (by decide) hj
    omega
/-! seats -/
abbrev T4 := Int × Int × Int × Int
abbrev Seat := T4 × T4
def common (a b : Int) : Int := (Nat.gcd a.natAbs b.natAbs : Int)
def qneg (x : Qn) : Qn := (0 - x.1, x.2)
def lsq (n : Int) : Bool := decide (0 ≤ n) && decide (isq n * isq n = n)
def formed (z : T4) : Num :=
  if z.2.1 = 0 ∨ lsq z.2.2.1 = true then .fr (ratio (z.1 + z.2.1 * isq z.2.2.1) z.2.2.2)
  else
    let p := z.2.2.2 * z.2.2.2
    let q := 0 - 2 * z.1 * z.2.2.2
    let s := z.1 * z.1 - z.2.1 * z.2.1 * z.2.2.1
    let g := common (common p q) s
    .rt (p / g) (q / g) (s / g) (decide (0 < z.2.1))
def lsign (a b r : Int) : Int :=
  let here := sgn a
  let there := if 0 < r then sgn b else 0
  if here = there ∨ there = 0 then here
  else if here = 0 then there else sgn (a * a - b * b * r) * here
def bar (a b c : Qn) : Int × Int × Int := (a.1 * b.2 * c.2, b.1 * a.2 * c.2, c.1 * a.2 * b.2)
def ring (x y q : Qn) : T4 := (x.1 * y.2 * q.2, y.1 * x.2 * q.2, q.1 * x.2 * y.2 * (x.2 * y.2 * q.2), x.2 * y.2 * q.2)
def side : Cv → Seat → Int
  | .line a b c, (x, y) => lsign ((bar a b c).1 * x.1 + (bar a b c).2.1 * y.1 - (bar a b c).2.2 * x.2.2.2) ((bar a b c).1 * x.2.1 + (bar a b c).2.1 * y.2.1) x.2.2.1
  | .circ p q k, (x, y) =>
    let u := (ring p q k).1
    let v := (ring p q k).2.1
    let t := (ring p q k).2.2.1
    let m := (ring p q k).2.2.2
    let r := x.2.2.1
    let d := x.2.2.2
    let e := m * x.1 - u * d
    let f := m * x.2.1
    let g := m * y.1 - v * d
    let h := m * y.2.1
    lsign (e * e + g * g + (f * f + h * h) * r - t * d * d) (2 * (e * f + g * h)) r
def chord (l : Int × Int × Int) (z : T4) : List Seat :=
  let o := common (common l.1 l.2.1) l.2.2
  let a := l.1 / o
  let b := l.2.1 / o
  let c := l.2.2 / o
  let n := a * z.1 + b * z.2.1 - c * z.2.2.2
  let k := a * a + b * b
  let r := z.2.2.1 * k - n * n
  let x := z.1 * k - n * a
  let y := z.2.1 * k - n * b
  let d := z.2.2.2 * k
  if r < 0 then []
  else if r = 0 then [((x, 0, 0, d), (y, 0, 0, d))]
  else if 0 < b ∨ (b = 0 ∧ a < 0) then [((x, 0 - b, r, d), (y, a, r, d)), ((x, b, r, d), (y, 0 - a, r, d))]
  else [((x, b, r, d), (y, 0 - a, r, d)), ((x, 0 - b, r, d), (y, a, r, d))]
def crossLL (l m : Int × Int × Int) : List Seat :=
  let low := l.1 * m.2.1 - m.1 * l.2.1
  let by_ : Int := if 0 < low then 1 else -1
  if low ≠ 0 then [((by_ * (l.2.2 * m.2.1 - m.2.2 * l.2.1), 0, 0, by_ * low), (by_ * (l.1 * m.2.2 - m.1 * l.2.2), 0, 0, by_ * low))] else []
def axis (z w : T4) : Int × Int × Int :=
  (2 * (w.1 * z.2.2.2 - z.1 * w.2.2.2) * z.2.2.2 * w.2.2.2, 2 * (w.2.1 * z.2.2.2 - z.2.1 * w.2.2.2) * z.2.2.2 * w.2.2.2,
    (w.1 * w.1 + w.2.1 * w.2.1 - w.2.2.1) * z.2.2.2 * z.2.2.2 - (z.1 * z.1 + z.2.1 * z.2.1 - z.2.2.1) * w.2.2.2 * w.2.2.2)
def meet : Cv → Cv → List Seat
  | .line a b c, .line a' b' c' => crossLL (bar a b c) (bar a' b' c')
  | .line a b c, .circ x y q => chord (bar a b c) (ring x y q)
  | .circ x y q, .line a b c => chord (bar a b c) (ring x y q)
  | .circ x y q, .circ x' y' q' => if (axis (ring x y q) (ring x' y' q')).1 ≠ 0 ∨ (axis (ring x y q) (ring x' y' q')).2.1 ≠ 0 then chord (axis (ring x y q) (ring x' y' q')) (ring x y q) else []
/-- the components of a curve are of n bits -/
def CvS (n : Nat) : Cv → Prop
  | .line a b c => Sz n a.1 ∧ Sz n a.2 ∧ Sz n b.1 ∧ Sz n b.2 ∧ Sz n c.1 ∧ Sz n c.2
  | .circ x y q => Sz n x.1 ∧ Sz n x.2 ∧ Sz n y.1 ∧ Sz n y.2 ∧ Sz n q.1 ∧ Sz n q.2
/-- a seat's numbers are of n bits -/
def StS (n : Nat) (z : Seat) : Prop := Sz n z.1.1 ∧ Sz n z.1.2.1 ∧ Sz n z.1.2.2.1 ∧ Sz n z.1.2.2.2 ∧ Sz n z.2.1 ∧ Sz n z.2.2.1 ∧ Sz n z.2.2.2.1 ∧ Sz n z.2.2.2.2
theorem common_pos {a b : Int} (h : a ≠ 0 ∨ b ≠ 0) : 0 < common a b := by
  have : 0 < Nat.gcd a.natAbs b.natAbs := by
    rcases h with h | h
    · exact Nat.gcd_pos_of_pos_left _ (by omega)
    · exact Nat.gcd_pos_of_pos_right _ (by omega)
  unfold common
  omega
theorem common_dvd_l (a b : Int) : common a b ∣ a := dvd_l a b
theorem common_dvd_r (a b : Int) : common a b ∣ b := dvd_r a b
theorem common_le {n : Nat} {a b : Int} (h : (a ≠ 0 ∧ Sz n a) ∨ (b ≠ 0 ∧ Sz n b)) : Sz n (common a b) := by
  unfold common
  rcases h with ⟨h, s⟩ | ⟨h, s⟩
  · refine s.le ?_
    exact Nat.gcd_le_left _ (by omega)
  · refine s.le ?_
    exact Nat.gcd_le_right _ (by omega)
theorem sz_div {n : Nat} {a g : Int} (h : Sz n a) (hd : g ∣ a) : Sz n (a / g) := by
  obtain ⟨k, rfl⟩ := hd
  by_cases hg : g = 0
  · subst hg
    simpa using h
  · rw [Int.mul_ediv_cancel_left _ hg]
    refine h.le ?_
    rw [Int.natAbs_mul]
    exact Nat.le_mul_of_pos_left _ (by omega)
end Pl
end
section
set_option Elab.async false
set_option linter.all false
set_option autoImplicit false
/-! sizes of fractions -/
namespace Pl
open PySem L2
/-- reduced, of n bits above and d below -/
def QB (n d : Nat) (x : Qn) : Prop := Red x ∧ Sz n x.1 ∧ Sz d x.2
theorem QB.mono {n d n' d' : Nat} {x : Qn} (h : QB n d x) (l1 : n ≤ n') (l2 : d ≤ d') : QB n' d' x := ⟨h.1, h.2.1.mono l1, h.2.2.mono l2⟩
theorem QB.of_vb {n d : Nat} {x : Qn} {N D : Int} (h : VB x N D) (s1 : Sz n N) (s2 : Sz d D) : QB n d x := ⟨h.red, h.s1 s1, h.s2 s2⟩
theorem QB.add {n d m e : Nat} {x y : Qn} (h : QB n d x) (g : QB m e y) : QB (max (n + e) (m + d) + 1) (d + e) (qadd x y) :=
  .of_vb (qadd_vb h.1.vb g.1.vb) ((h.2.1.mul g.2.2).add (g.2.1.mul h.2.2)) (h.2.2.mul g.2.2)
theorem QB.mul {n d m e : Nat} {x y : Qn} (h : QB n d x) (g : QB m e y) : QB (n + m) (d + e) (qmul x y) :=
  .of_vb (qmul_vb h.1.vb g.1.vb) (h.2.1.mul g.2.1) (h.2.2.mul g.2.2)
theorem Red.neg {x : Qn} (h : Red x) : Red (qneg x) := ⟨h.1, by
  show Nat.gcd (0 - x.1).natAbs x.2.natAbs = 1
  rw [Int.zero_sub, Int.natAbs_neg]
  exact h.2⟩
theorem QB.neg {n d : Nat} {x : Qn} (h : QB n d x) : QB n d (qneg x) := ⟨h.1.neg, by
  show Sz n (0 - x.1)
  rw [Int.zero_sub]
  exact h.2.1.neg, h.2.2⟩
theorem QB.mulC {n d m e : Nat} {x y : Qn} (h : QB n d x) (g : QB m e y) (l : d + e ≤ 9000) (k : n + m ≤ 900000) : MulC x y :=
  ⟨h.1.1, g.1.1, mulok h.2.1 g.2.1 k, mulok h.2.2 g.2.2 (by omega), .inl ((h.2.2.mul g.2.2).mono l)⟩
theorem QB.addC {n d m e : Nat} {x y : Qn} (h : QB n d x) (g : QB m e y) (l : d + e ≤ 9000) (k1 : n + e ≤ 900000) (k2 : m + d ≤ 900000) : AddC x y :=
  ⟨h.1.1, g.1.1, mulok h.2.1 g.2.2 k1, mulok g.2.1 h.2.2 k2, mulok h.2.2 g.2.2 (by omega), .inl ((h.2.2.mul g.2.2).mono l)⟩
theorem QB.subC {n d m e : Nat} {x y : Qn} (h : QB n d x) (g : QB m e y) (l : d + e ≤ 9000) (k1 : n + e ≤ 900000) (k2 : m + d ≤ 900000) : SubC x y :=
  ⟨h.1.1, g.1.1, mulok h.2.1 g.2.2 k1, mulok g.2.1 h.2.2 k2, mulok h.2.2 g.2.2 (by omega), .inl ((h.2.2.mul g.2.2).mono l)⟩
/-- .. where both are of at most 13000 bits -/
theorem QB.addC2 {n d m e : Nat} {x y : Qn} (h : QB n d x) (g : QB m e y) (l : d + e ≤ 13000) (k : max (n + e) (m + d) + 1 ≤ 13000) : AddC x y :=
  ⟨h.1.1, g.1.1, mulok h.2.1 g.2.2 (by omega), mulok g.2.1 h.2.2 (by omega), mulok h.2.2 g.2.2 (by omega), .inr ⟨((h.2.1.mul g.2.2).add (g.2.1.mul h.2.2)).mono k, (h.2.2.mul g.2.2).mono l⟩⟩
theorem QB.subC2 {n d m e : Nat} {x y : Qn} (h : QB n d x) (g : QB m e y) (l : d + e ≤ 13000) (k : max (n + e) (m + d) + 1 ≤ 13000) : SubC x y :=
  ⟨h.1.1, g.1.1, mulok h.2.1 g.2.2 (by omega), mulok g.2.1 h.2.2 (by omega), mulok h.2.2 g.2.2 (by omega), .inr ⟨((h.2.1.mul g.2.2).sub (g.2.1.mul h.2.2)).mono k, (h.2.2.mul g.2.2).mono l⟩⟩
theorem QB.mulC2 {n d m e : Nat} {x y : Qn} (h : QB n d x) (g : QB m e y) (l : d + e ≤ 13000) (k : n + m ≤ 13000) : MulC x y :=
  ⟨h.1.1, g.1.1, mulok h.2.1 g.2.1 (by omega), mulok h.2.2 g.2.2 (by omega), .inr ⟨(h.2.1.mul g.2.1).mono k, (h.2.2.mul g.2.2).mono l⟩⟩
theorem qbi {n : Nat} {i : Int} (h : Sz n i) : QB n 1 (i, 1) := ⟨⟨(by decide : (0 : Int) < 1), Nat.gcd_one_right _⟩, h, sz_1⟩
instance (x : Qn) : Decidable (Red x) := by unfold Red; infer_instance
instance (n : Nat) (i : Int) : Decidable (Sz n i) := by unfold Sz; infer_instance
instance (n d : Nat) (x : Qn) : Decidable (QB n d x) := by unfold QB; infer_instance
/-! kinds of curves by their sizes -/
def CircB (n d m e : Nat) (x y q : Qn) : Prop := QB n d x ∧ QB n d y ∧ QB m e q ∧ 0 < q.1
def LineB (n d m e : Nat) (a b c : Qn) : Prop := QB n d a ∧ QB n d b ∧ QB m e c ∧ (a ≠ (0, 1) ∨ b ≠ (0, 1))
def Lv1c : Cv → Prop
  | .circ x y q => CircB 3 3 5 3 x y q
  | .line _ _ _ => False
def Lv1l : Cv → Prop
  | .circ _ _ _ => False
  | .line a b c => LineB 4 2 3 3 a b c
def Lv2 : Cv → Prop
  | .circ x y q => CircB 5 4 75 68 x y q ∨ CircB 13 10 4 4 x y q
  | .line a b c => LineB 4 3 37 32 a b c
def Lv3 : Cv → Prop
  | .circ x y q => CircB 7 5 211 202 x y q ∨ CircB 49 43 8 7 x y q
  | .line a b c => LineB 4 3 105 99 a b c
theorem CircB.mono {n d m e n' d' m' e' : Nat} {x y q : Qn} (h : CircB n d m e x y q) (l1 : n ≤ n') (l2 : d ≤ d') (l3 : m ≤ m') (l4 : e ≤ e') : CircB n' d' m' e' x y q := ⟨h.1.mono l1 l2, h.2.1.mono l1 l2, h.2.2.1.mono l3 l4, h.2.2.2⟩
theorem LineB.mono {n d m e n' d' m' e' : Nat} {x y q : Qn} (h : LineB n d m e x y q) (l1 : n ≤ n') (l2 : d ≤ d') (l3 : m ≤ m') (l4 : e ≤ e') : LineB n' d' m' e' x y q := ⟨h.1.mono l1 l2, h.2.1.mono l1 l2, h.2.2.1.mono l3 l4, h.2.2.2⟩
theorem CircB.ok {n d m e : Nat} {x y q : Qn} (h : CircB n d m e x y q) : CvOk (.circ x y q) := ⟨h.1.1, h.2.1.1, h.2.2.1.1, h.2.2.2⟩
theorem LineB.ok {n d m e : Nat} {x y q : Qn} (h : LineB n d m e x y q) : CvOk (.line x y q) := ⟨h.1.1, h.2.1.1, h.2.2.1.1, h.2.2.2⟩
theorem CircB.s {n d m e k : Nat} {x y q : Qn} (h : CircB n d m e x y q) (l1 : n ≤ k) (l2 : d ≤ k) (l3 : m ≤ k) (l4 : e ≤ k) : CvS k (.circ x y q) := ⟨h.1.2.1.mono l1, h.1.2.2.mono l2, h.2.1.2.1.mono l1, h.2.1.2.2.mono l2, h.2.2.1.2.1.mono l3, h.2.2.1.2.2.mono l4⟩
theorem LineB.s {n d m e k : Nat} {x y q : Qn} (h : LineB n d m e x y q) (l1 : n ≤ k) (l2 : d ≤ k) (l3 : m ≤ k) (l4 : e ≤ k) : CvS k (.line x y q) := ⟨h.1.2.1.mono l1, h.1.2.2.mono l2, h.2.1.2.1.mono l1, h.2.1.2.2.mono l2, h.2.2.1.2.1.mono l3, h.2.2.1.2.2.mono l4⟩
theorem Lv1c.lv2 {c : Cv} (h : Lv1c c) : Lv2 c := by
  cases c with
  | circ x y q => exact .inl (CircB.mono h (by decide) (by decide) (by decide) (by decide))
  | line _ _ _ => exact h.elim
theorem Lv1l.lv2 {c : Cv} (h : Lv1l c) : Lv2 c := by
  cases c with
  | line x y q => exact LineB.mono h (by decide) (by decide) (by decide) (by decide)
  | circ _ _ _ => exact h.elim
theorem Lv2.lv3 {c : Cv} (h : Lv2 c) : Lv3 c := by
  cases c with
  | circ x y q =>
    rcases h with h | h
    · exact .inl (CircB.mono h (by decide) (by decide) (by decide) (by decide))
    · exact .inr (CircB.mono h (by decide) (by decide) (by decide) (by decide))
  | line x y q => exact LineB.mono h (by decide) (by decide) (by decide) (by decide)
theorem Lv3.ok {c : Cv} (h : Lv3 c) : CvOk c ∧ CvS 300 c := by
  cases c with
  | circ x y q =>
    rcases h with h | h
    · exact ⟨h.ok, h.s (by decide) (by decide) (by decide) (by decide)⟩
    · exact ⟨h.ok, h.s (by decide) (by decide) (by decide) (by decide)⟩
  | line x y q => exact ⟨LineB.ok h, LineB.s h (by decide) (by decide) (by decide) (by decide)⟩
/-! the root of a square fraction -/
theorem sz_isq {k : Nat} {n : Int} (h : Sz (2 * k) n) : Sz k (isq n) := by
  unfold isq Sz
  have := (PySem.Float64.isqrt_spec n.toNat).1
  generalize PySem.Float64.isqrt n.toNat = r at *
  show (r : Int).natAbs < 2 ^ k
  rw [Int.natAbs_natCast]
  refine Nat.lt_of_not_le fun z => ?_
  have h1 : 2 ^ k * 2 ^ k ≤ r * r := Nat.mul_le_mul z z
  rw [← Nat.pow_add] at h1
  have h2 : n.natAbs < 2 ^ (2 * k) := h
  rw [show 2 * k = k + k by omega] at h2
  omega
theorem isq_of_sq {r : Nat} : isq ((r * r : Nat) : Int) = (r : Int) := by
  unfold isq
  obtain ⟨h1, h2⟩ := PySem.Float64.isqrt_spec (r * r)
  rw [show ((r * r : Nat) : Int).toNat = r * r from rfl]
  generalize PySem.Float64.isqrt (r * r) = s at *
  have a : s ≤ r := Nat.le_of_not_lt fun z => by
    have := Nat.mul_lt_mul'' z z
    omega
  have b : r ≤ s := Nat.le_of_not_lt fun z => by
    have := Nat.mul_le_mul (show s + 1 ≤ r from z) (show s + 1 ≤ r from z)
    omega
  have : s = r := by omega
  rw [this]
end Pl
end
section
set_option Elab.async false
set_option linter.all false
set_option autoImplicit false
/-! seats: what they are, their sizes -/
namespace Pl
open PySem L2
/-- below above 0, of n bits above and d below -/
def QW (n d : Nat) (x : Qn) : Prop := 0 < x.2 ∧ Sz n x.1 ∧ Sz d x.2
theorem QB.w {n d : Nat} {x : Qn} (h : QB n d x) : QW n d x := ⟨h.1.1, h.2⟩
theorem QW.neg {n d : Nat} {x : Qn} (h : QW n d x) : QW n d (qneg x) := ⟨h.1, by
  show Sz n (0 - x.1)
  rw [Int.zero_sub]
  exact h.2.1.neg, h.2.2⟩
theorem QW.add {n d m e : Nat} {x y : Qn} (h : QW n d x) (g : QW m e y) : QB (max (n + e) (m + d) + 1) (d + e) (qadd x y) :=
  .of_vb (ratio_vb (Int.mul_pos h.1 g.1)) ((h.2.1.mul g.2.2).add (g.2.1.mul h.2.2)) (h.2.2.mul g.2.2)
theorem QW.mul {n d m e : Nat} {x y : Qn} (h : QW n d x) (g : QW m e y) : QB (n + m) (d + e) (qmul x y) :=
  .of_vb (ratio_vb (Int.mul_pos h.1 g.1)) (h.2.1.mul g.2.1) (h.2.2.mul g.2.2)
theorem QW.mulC {n d m e : Nat} {x y : Qn} (h : QW n d x) (g : QW m e y) (l : d + e ≤ 9000) (k : n + m ≤ 900000) : MulC x y :=
  ⟨h.1, g.1, mulok h.2.1 g.2.1 k, mulok h.2.2 g.2.2 (by omega), .inl ((h.2.2.mul g.2.2).mono l)⟩
theorem QW.addC {n d m e : Nat} {x y : Qn} (h : QW n d x) (g : QW m e y) (l : d + e ≤ 9000) (k1 : n + e ≤ 900000) (k2 : m + d ≤ 900000) : AddC x y :=
  ⟨h.1, g.1, mulok h.2.1 g.2.2 k1, mulok g.2.1 h.2.2 k2, mulok h.2.2 g.2.2 (by omega), .inl ((h.2.2.mul g.2.2).mono l)⟩
theorem isq_pos {n : Int} (h : 0 < n) : 0 < isq n := by
  unfold isq
  have := (PySem.Float64.isqrt_spec n.toNat).2
  generalize PySem.Float64.isqrt n.toNat = r at *
  rcases Nat.eq_zero_or_pos r with z | z
  · subst z
    omega
  · omega
/-- two numbers with one r and one d, r from 0 on, d above 0 -/
def seatOf (x b y e r d : Int) : Seat := ((x, b, r, d), (y, e, r, d))
structure SeatB (α β ρ δ : Nat) (z : Seat) : Prop where
  is : ∃ x b y e r d : Int, z = seatOf x b y e r d ∧ 0 ≤ r ∧ 0 < d ∧ (r = 0 → b = 0 ∧ e = 0) ∧ Sz α x ∧ Sz α y ∧ Sz β b ∧ Sz β e ∧ Sz ρ r ∧ Sz δ d
theorem SeatB.mono {α β ρ δ α' β' ρ' δ' : Nat} {z : Seat} (h : SeatB α β ρ δ z) (l1 : α ≤ α') (l2 : β ≤ β') (l3 : ρ ≤ ρ') (l4 : δ ≤ δ') : SeatB α' β' ρ' δ' z := by
  obtain ⟨x, b, y, e, r, d, h0, h1, h2, h3, s1, s2, s3, s4, s5, s6⟩ := h.is
  exact ⟨x, b, y, e, r, d, h0, h1, h2, h3, s1.mono l1, s2.mono l1, s3.mono l2, s4.mono l2, s5.mono l3, s6.mono l4⟩
theorem sq_pos {a b : Int} (h : a ≠ 0 ∨ b ≠ 0) : 0 < a * a + b * b := by
  have h1 : 0 ≤ a * a := by
    rcases Int.le_total 0 a with z | z
    · exact Int.mul_nonneg z z
    · exact Int.mul_nonneg_of_nonpos_of_nonpos z z
  have h2 : 0 ≤ b * b := by
    rcases Int.le_total 0 b with z | z
    · exact Int.mul_nonneg z z
    · exact Int.mul_nonneg_of_nonpos_of_nonpos z z
  rcases h with h | h
  · have : a * a ≠ 0 := Int.mul_ne_zero h h
    omega
  · have : b * b ≠ 0 := Int.mul_ne_zero h h
    omega
/-- the seats of a chord -/
theorem chord_b {A C U M τ : Nat} {l : Int × Int × Int} {w : T4} (hl : l.1 ≠ 0 ∨ l.2.1 ≠ 0) (s1 : Sz A l.1) (s2 : Sz A l.2.1) (s3 : Sz C l.2.2) (s4 : Sz U w.1) (s5 : Sz U w.2.1) (s6 : Sz τ w.2.2.1) (s7 : Sz M w.2.2.2) (hm : 0 < w.2.2.2)
    {z : Seat} (h : z ∈ chord l w) : SeatB (max (U + (A + A + 1)) (max (A + U + 1) (C + M) + 1 + A) + 1) A (max (τ + (A + A + 1)) (max (A + U + 1) (C + M) + 1 + (max (A + U + 1) (C + M) + 1)) + 1) (M + (A + A + 1)) z := by
  have g1 : 0 < common l.1 l.2.1 := common_pos hl
  have d0 : common (common l.1 l.2.1) l.2.2 ∣ common l.1 l.2.1 := common_dvd_l _ _
  have d1 := Int.dvd_trans d0 (common_dvd_l l.1 l.2.1)
  have d2 := Int.dvd_trans d0 (common_dvd_r l.1 l.2.1)
  have z1 := sz_div s1 d1
  have z2 := sz_div s2 d2
  have z3 := sz_div s3 (common_dvd_r (common l.1 l.2.1) l.2.2)
  have hne : l.1 / common (common l.1 l.2.1) l.2.2 ≠ 0 ∨ l.2.1 / common (common l.1 l.2.1) l.2.2 ≠ 0 := by
    rcases hl with hl | hl
    · exact .inl fun e => hl (by have := Int.mul_ediv_cancel' d1; rw [e, Int.mul_zero] at this; exact this.symm)
    · exact .inr fun e => hl (by have := Int.mul_ediv_cancel' d2; rw [e, Int.mul_zero] at this; exact this.symm)
  obtain ⟨u, v, t, m⟩ := w
  simp only at s4 s5 s6 s7 hm
  unfold chord at h
  simp only at h
  generalize l.1 / common (common l.1 l.2.1) l.2.2 = a at *
  generalize l.2.1 / common (common l.1 l.2.1) l.2.2 = b at *
  generalize l.2.2 / common (common l.1 l.2.1) l.2.2 = c at *
  have sn0 : Sz (A + U + 1) (a * u + b * v) := ((z1.mul s4).add (z2.mul s5)).mono (by omega)
  have sn : Sz (max (A + U + 1) (C + M) + 1) (a * u + b * v - c * m) := sn0.sub (z3.mul s7)
  have sk : Sz (A + A + 1) (a * a + b * b) := ((z1.mul z1).add (z2.mul z2)).mono (by omega)
  have hk : 0 < a * a + b * b := sq_pos hne
  generalize a * u + b * v - c * m = n at *
  generalize a * a + b * b = k at *
  have hd : 0 < m * k := Int.mul_pos hm hk
  have sx := (s4.mul sk).sub (sn.mul z1)
  have sy := (s5.mul sk).sub (sn.mul z2)
  have sr := (s6.mul sk).sub (sn.mul sn)
  have sd := s7.mul sk
  have zr : ∀ i : Int, 0 - i = -i := fun i => Int.zero_sub i
  split at h
  · cases h
  · rename_i hr
    split at h
    · rename_i hr0
      rw [List.mem_singleton] at h
      subst h
      exact ⟨_, 0, _, 0, 0, _, rfl, Int.le_refl 0, hd, fun _ => ⟨rfl, rfl⟩, sx, sy, by unfold Sz; exact Nat.two_pow_pos _, by unfold Sz; exact Nat.two_pow_pos _, by unfold Sz; exact Nat.two_pow_pos _, sd⟩
    · rename_i hr0
      have key : ∀ b' e' : Int, Sz A b' → Sz A e' → z = seatOf (u * k - n * a) b' (v * k - n * b) e' (t * k - n * n) (m * k) → SeatB (max (U + (A + A + 1)) (max (A + U + 1) (C + M) + 1 + A) + 1) A (max (τ + (A + A + 1)) (max (A + U + 1) (C + M) + 1 + (max (A + U + 1) (C + M) + 1)) + 1) (M + (A + A + 1)) z := fun b' e' q1 q2 q3 =>
        ⟨_, _, _, _, _, _, q3, by omega, hd, fun q => absurd q hr0, sx, sy, q1, q2, sr, sd⟩
      have nb : Sz A (0 - b) := by rw [zr]; exact z2.neg
      have na : Sz A (0 - a) := by rw [zr]; exact z1.neg
      split at h <;> (simp only [List.mem_cons, List.not_mem_nil, or_false] at h; rcases h with h | h)
      · exact key _ _ nb z1 h
      · exact key _ _ z2 na h
      · exact key _ _ z2 na h
      · exact key _ _ nb z1 h
theorem crossLL_b {A C A' C' : Nat} {l m : Int × Int × Int} (s1 : Sz A l.1) (s2 : Sz A l.2.1) (s3 : Sz C l.2.2) (t1 : Sz A' m.1) (t2 : Sz A' m.2.1) (t3 : Sz C' m.2.2) {z : Seat} (h : z ∈ crossLL l m) :
    SeatB (max (C + A') (C' + A) + 2) 1 1 (A + A' + 2) z := by
  unfold crossLL at h
  simp only at h
  split at h
  · rename_i hne
    rw [List.mem_singleton] at h
    subst h
    have hb : ∃ g : Int, (if 0 < l.1 * m.2.1 - m.1 * l.2.1 then (1 : Int) else -1) = g ∧ Sz 1 g ∧ 0 < g * (l.1 * m.2.1 - m.1 * l.2.1) := by
      split
      · exact ⟨1, rfl, sz_1, by omega⟩
      · exact ⟨-1, rfl, sz_m1, by omega⟩
    obtain ⟨g, e, g1, g2⟩ := hb
    rw [e]
    refine ⟨_, 0, _, 0, 0, _, rfl, Int.le_refl 0, g2, fun _ => ⟨rfl, rfl⟩, ?_, ?_, sz_0, sz_0, sz_0, ?_⟩
    · exact (g1.mul ((s3.mul t2).sub (t3.mul s2))).mono (by omega)
    · exact (g1.mul ((s1.mul t3).sub (t1.mul s3))).mono (by omega)
    · exact (g1.mul ((s1.mul t2).sub (t1.mul s2))).mono (by omega)
  · cases h
theorem Red.n0 {x : Qn} (h : Red x) (n : x ≠ (0, 1)) : x.1 ≠ 0 := fun z => n (by
  obtain ⟨h1, h2⟩ := h
  rw [z] at h2
  simp at h2
  exact Prod.ext z (show x.2 = 1 by omega))
theorem LineB.bar {n d m e : Nat} {a b c : Qn} (h : LineB n d m e a b c) : ((bar a b c).1 ≠ 0 ∨ (bar a b c).2.1 ≠ 0) ∧ Sz (n + d + e) (bar a b c).1 ∧ Sz (n + d + e) (bar a b c).2.1 ∧ Sz (m + d + d) (bar a b c).2.2 := by
  obtain ⟨h1, h2, h3, h4⟩ := h
  have p1 := h1.1.1
  have p2 := h2.1.1
  have p3 := h3.1.1
  refine ⟨?_, (h1.2.1.mul h2.2.2).mul h3.2.2, (h2.2.1.mul h1.2.2).mul h3.2.2, (h3.2.1.mul h1.2.2).mul h2.2.2⟩
  rcases h4 with h4 | h4
  · exact .inl (Int.mul_ne_zero (Int.mul_ne_zero (h1.1.n0 h4) (by omega)) (by omega))
  · exact .inr (Int.mul_ne_zero (Int.mul_ne_zero (h2.1.n0 h4) (by omega)) (by omega))
theorem CircB.ring {n d m e : Nat} {x y q : Qn} (h : CircB n d m e x y q) : Sz (n + d + e) (ring x y q).1 ∧ Sz (n + d + e) (ring x y q).2.1 ∧ Sz (m + d + d + (d + d + e)) (ring x y q).2.2.1 ∧ Sz (d + d + e) (ring x y q).2.2.2 ∧ 0 < (ring x y q).2.2.2 := by
  obtain ⟨h1, h2, h3, h4⟩ := h
  exact ⟨(h1.2.1.mul h2.2.2).mul h3.2.2, (h2.2.1.mul h1.2.2).mul h3.2.2, ((h3.2.1.mul h1.2.2).mul h2.2.2).mul ((h1.2.2.mul h2.2.2).mul h3.2.2), (h1.2.2.mul h2.2.2).mul h3.2.2, Int.mul_pos (Int.mul_pos h1.1.1 h2.1.1) h3.1.1⟩
/-- what through finds -/
theorem meet_1 {c e : Cv} (h1 : Lv1c c) (h2 : Lv1l e) {z : Seat} (h : z ∈ meet c e) : SeatB 30 9 43 28 z := by
  cases c with
  | line _ _ _ => exact h1.elim
  | circ x y q =>
    cases e with
    | circ _ _ _ => exact h2.elim
    | line a b c =>
      obtain ⟨b0, b1, b2, b3⟩ := LineB.bar h2
      obtain ⟨r1, r2, r3, r4, r5⟩ := CircB.ring h1
      exact (chord_b b0 b1 b2 b3 r1 r2 r3 r4 r5 h).mono (by decide) (by decide) (by decide) (by decide)
theorem meet_2 {c e : Cv} (h1 : Lv1l c) (h2 : Lv2 e) {z : Seat} (h : z ∈ meet c e) : SeatB 98 9 180 95 z := by
  cases c with
  | circ _ _ _ => exact h1.elim
  | line a b c =>
    obtain ⟨b0, b1, b2, b3⟩ := LineB.bar h1
    cases e with
    | circ x y q =>
      rcases h2 with h2 | h2
      · obtain ⟨r1, r2, r3, r4, r5⟩ := CircB.ring h2
        exact (chord_b b0 b1 b2 b3 r1 r2 r3 r4 r5 h).mono (by decide) (by decide) (by decide) (by decide)
      · obtain ⟨r1, r2, r3, r4, r5⟩ := CircB.ring h2
        exact (chord_b b0 b1 b2 b3 r1 r2 r3 r4 r5 h).mono (by decide) (by decide) (by decide) (by decide)
    | line a' b' c' =>
      obtain ⟨q0, q1, q2, q3⟩ := LineB.bar h2
      exact (crossLL_b b1 b2 b3 q1 q2 q3 h).mono (by decide) (by decide) (by decide) (by decide)
/-- the seats that the law looks at -/
abbrev SeatL (z : Seat) : Prop := SeatB 1246 581 1330 1239 z
theorem meet_3 {c e : Cv} (h1 : Lv2 c) (h2 : Lv3 e) {z : Seat} (h : z ∈ meet c e) : SeatL z := by
  have cl : ∀ {l : Int × Int × Int} {w : T4} {A C U M τ : Nat}, z ∈ chord l w → (l.1 ≠ 0 ∨ l.2.1 ≠ 0) → Sz A l.1 → Sz A l.2.1 → Sz C l.2.2 → Sz U w.1 → Sz U w.2.1 → Sz τ w.2.2.1 → Sz M w.2.2.2 → 0 < w.2.2.2 →
      max (U + (A + A + 1)) (max (A + U + 1) (C + M) + 1 + A) + 1 ≤ 1246 → A ≤ 581 → max (τ + (A + A + 1)) (max (A + U + 1) (C + M) + 1 + (max (A + U + 1) (C + M) + 1)) + 1 ≤ 1330 → M + (A + A + 1) ≤ 1239 → SeatL z := fun h a1 a2 a3 a4 a5 a6 a7 a8 a9 l1 l2 l3 l4 =>
    (chord_b a1 a2 a3 a4 a5 a6 a7 a8 a9 h).mono l1 l2 l3 l4
  cases c with
  | line a b c =>
    obtain ⟨b0, b1, b2, b3⟩ := LineB.bar h1
    cases e with
    | line a' b' c' =>
      obtain ⟨q0, q1, q2, q3⟩ := LineB.bar h2
      exact (crossLL_b b1 b2 b3 q1 q2 q3 h).mono (by decide) (by decide) (by decide) (by decide)
    | circ x y q =>
      rcases h2 with h2 | h2 <;>
      · obtain ⟨r1, r2, r3, r4, r5⟩ := CircB.ring h2
        exact cl h b0 b1 b2 b3 r1 r2 r3 r4 r5 (by decide) (by decide) (by decide) (by decide)
  | circ x y q =>
    have rc : ∃ (u t m : Nat), Sz u (ring x y q).1 ∧ Sz u (ring x y q).2.1 ∧ Sz t (ring x y q).2.2.1 ∧ Sz m (ring x y q).2.2.2 ∧ 0 < (ring x y q).2.2.2 ∧ u = 77 ∧ t = 159 ∧ m = 76 := by
      rcases h1 with h1 | h1
      · obtain ⟨r1, r2, r3, r4, r5⟩ := CircB.ring h1
        exact ⟨77, 159, 76, r1, r2, r3, r4, r5, rfl, rfl, rfl⟩
      · obtain ⟨r1, r2, r3, r4, r5⟩ := CircB.ring h1
        exact ⟨77, 159, 76, r1.mono (by decide), r2.mono (by decide), r3.mono (by decide), r4.mono (by decide), r5, rfl, rfl, rfl⟩
    obtain ⟨_, _, _, r1, r2, r3, r4, r5, rfl, rfl, rfl⟩ := rc
    cases e with
    | line a' b' c' =>
      obtain ⟨b0, b1, b2, b3⟩ := LineB.bar h2
      exact cl h b0 b1 b2 b3 r1 r2 r3 r4 r5 (by decide) (by decide) (by decide) (by decide)
    | circ x' y' q' =>
      have rd : ∃ (u t m : Nat), Sz u (ring x' y' q').1 ∧ Sz u (ring x' y' q').2.1 ∧ Sz t (ring x' y' q').2.2.1 ∧ Sz m (ring x' y' q').2.2.2 ∧ 0 < (ring x' y' q').2.2.2 ∧ u = 214 ∧ t = 433 ∧ m = 212 := by
        rcases h2 with h2 | h2
        · obtain ⟨r1, r2, r3, r4, r5⟩ := CircB.ring h2
          exact ⟨214, 433, 212, r1, r2, r3, r4, r5, rfl, rfl, rfl⟩
        · obtain ⟨r1, r2, r3, r4, r5⟩ := CircB.ring h2
          exact ⟨214, 433, 212, r1.mono (by decide), r2.mono (by decide), r3.mono (by decide), r4.mono (by decide), r5, rfl, rfl, rfl⟩
      obtain ⟨_, _, _, q1, q2, q3, q4, q5, rfl, rfl, rfl⟩ := rd
      have em : meet (.circ x y q) (.circ x' y' q') = if (axis (ring x y q) (ring x' y' q')).1 ≠ 0 ∨ (axis (ring x y q) (ring x' y' q')).2.1 ≠ 0 then chord (axis (ring x y q) (ring x' y' q')) (ring x y q) else [] := rfl
      rw [em] at h
      split at h
      · rename_i hne
        have a1 : Sz 581 (axis (ring x y q) (ring x' y' q')).1 := (((sz_2.mul ((q1.mul r4).sub (r1.mul q4))).mul r4).mul q4).mono (by decide)
        have a2 : Sz 581 (axis (ring x y q) (ring x' y' q')).2.1 := (((sz_2.mul ((q2.mul r4).sub (r2.mul q4))).mul r4).mul q4).mono (by decide)
        have a3 : Sz 587 (axis (ring x y q) (ring x' y' q')).2.2 := ((((((q1.mul q1).add (q2.mul q2)).sub q3).mul r4).mul r4).sub (((((r1.mul r1).add (r2.mul r2)).sub r3).mul q4).mul q4)).mono (by decide)
        exact cl h hne a1 a2 a3 r1 r2 r3 r4 r5 (by decide) (by decide) (by decide) (by decide)
      · cases h
end Pl
end
section
set_option Elab.async false
set_option linter.all false
set_option maxRecDepth 100000
set_option autoImplicit false
set_option maxHeartbeats 1000000
/-! the program's arithmetic -/
namespace Pl
open PySem PySem.Spec PyProof.Rows L2
local macro_rules | `(tactic| walk_at "ev1") => `(tactic| first
  | with_reducible refine ev_var rfl ?_
  | with_reducible refine ev_ref rfl ?_
  | with_reducible refine ev_int ?_
  | with_reducible refine ev_str ?_
  | with_reducible refine ev_bl ?_
  | with_reducible refine ev_ty ?_
  | with_reducible refine ev_op ?_
  | with_reducible refine ev_un ?_
  | with_reducible refine ev_if ?_
  | with_reducible refine ev_tup ?_
  | with_reducible refine ev_lst ?_
  | with_reducible refine ev_cb ?_
  | with_reducible refine ev_andV ?_
  | with_reducible refine ev_orV ?_
  | with_reducible refine ev_notV ?_
  | with_reducible refine ec_val ?_
  | with_reducible refine ec_test ?_
  | with_reducible refine ec_not ?_
  | with_reducible refine ec_and ?_
  | with_reducible refine ec_or ?_
  | with_reducible refine ea_nil ?_
  | with_reducible refine ea_cons ?_
  | with_reducible refine es_seq ?_
  | with_reducible refine es_drop ?_
  | with_reducible refine es_ret ?_
  | with_reducible refine es_if ?_
  | with_reducible refine es_asg ?_
  | with_reducible refine es_asgG ?_
  | with_reducible refine es_par ?_
  | with_reducible refine es_par3 ?_
  | with_reducible refine es_next ?_
  | with_reducible refine eg_name (by (simp only [List.set_cons_succ, List.set_cons_zero]); exact rfl) ?_
  | with_reducible refine par_q (by (simp only [List.set_cons_succ, List.set_cons_zero]); exact rfl) ?_
  | with_reducible refine par_q3 (by (simp only [List.set_cons_succ, List.set_cons_zero]); exact rfl) ?_
  | with_reducible refine asg_dat (by (simp only [List.set_cons_succ, List.set_cons_zero]); exact rfl) ?_
  | with_reducible refine asg_ref (by (simp only [List.set_cons_succ, List.set_cons_zero]); exact rfl) ?_
  | with_reducible refine eg_tup rfl ?_
  | with_reducible refine eg_cons ?_
  | with_reducible refine eg_nil ?_
  | with_reducible refine tup_q2 ?_
  | with_reducible refine tup_q3 ?_
  | with_reducible refine tup_q4 ?_
  | with_reducible refine tup_q5 ?_
  | with_reducible refine tup_q8 ?_
  | with_reducible refine tup_q11 ?_
  | with_reducible refine tup_q0 ?_
  | with_reducible refine tup_q1 ?_
  | with_reducible refine tst ?_
  | with_reducible refine tun ?_
  | with_reducible refine r2_ix rfl ?_
  | with_reducible refine r2_i0 ?_
  | with_reducible refine r2_b0 ?_
  | with_reducible refine r2_eqI ?_
  | with_reducible refine r2_neI ?_
  | with_reducible refine r2_eqS ?_
  | with_reducible refine r2_neS ?_
  | with_reducible refine r2_subB ?_
  | with_reducible refine cb_gcd ?_
  | with_reducible refine cb_abs ?_
  | with_reducible refine cb_int ?_
  | with_reducible refine cb_lenT ?_)
local macro_rules | `(tactic| walk_at "sz") => `(tactic| first
  | assumption
  | with_reducible exact sz_0
  | with_reducible exact sz_1
  | with_reducible exact sz_2
  | with_reducible exact sz_4
  | with_reducible exact sz_m1
  | with_reducible exact Sz.mul (by walk_at "sz") (by walk_at "sz")
  | with_reducible exact Sz.add (by walk_at "sz") (by walk_at "sz")
  | with_reducible exact Sz.sub (by walk_at "sz") (by walk_at "sz")
  | with_reducible exact Sz.neg (by walk_at "sz"))
local macro_rules | `(tactic| walk_at "mulok") => `(tactic| first
  | assumption
  | exact mulok (by walk_at "sz") (by walk_at "sz") (by decide))
local macro_rules | `(tactic| walk_at "ev1") => `(tactic| (refine r2_i (C := CMulW) ?_ ?_; walk_at "mulok"))
local macro_rules | `(tactic| walk_at "ev") => `(tactic| repeat walk_at "ev1")
/-- a fraction as data -/
abbrev qD (x : Qn) : PyData := .tuple [.int x.1, .int x.2]
theorem Dok.dv {t l i : Int} (h : Dok t l) (hl : 0 < l) (hi : i = t ∨ i = l) : CDv i (Nat.gcd t.natAbs l.natAbs : Int) := by
  have hg := gcd_pos_of (t := t) hl
  refine ⟨by omega, ?_⟩
  have hle : Nat.gcd t.natAbs l.natAbs ≤ l.natAbs := Nat.gcd_le_right _ (by omega)
  have e : ((Nat.gcd t.natAbs l.natAbs : Nat) : Int).natAbs = Nat.gcd t.natAbs l.natAbs := rfl
  by_cases hs : Nat.gcd t.natAbs l.natAbs < 2 ^ 9000
  · exact PyProof.noPylong_of_log2 (PySem.Flt.log2_lt_of (by decide) (by rw [e]; exact hs))
  · have hbig : ¬ l.natAbs < 2 ^ 9000 := fun z => hs (Nat.lt_of_le_of_lt hle z)
    rcases h with h | ⟨h1, h2⟩
    · exact absurd h hbig
    · refine (divp_ok hg ?_).2
      have hb : Builtin.Int.intBits i ≤ 13000 := by
        rcases hi with rfl | rfl
        · exact bits_le h1
        · exact bits_le h2
      have h9 : 9000 ≤ (Nat.gcd t.natAbs l.natAbs).log2 := (Nat.le_log2 (by omega)).mpr (Nat.le_of_not_lt hs)
      have : Builtin.Int.intBits (Nat.gcd t.natAbs l.natAbs : Int) = (Nat.gcd t.natAbs l.natAbs).log2 + 1 := by
        unfold Builtin.Int.intBits
        rw [if_neg (by simp; omega), e]
      omega
section
variable {P : Program} {w : World} {K : PySem.W.Frag} {mg : Str → Option Value} {base : Heap}
def S_ratio : List PyData → PyData → Prop
  | [a, b], d => ∃ t l, a = .int t ∧ b = .int l ∧ 0 < l ∧ Dok t l ∧ d = qD (ratio t l)
  | _, _ => False
theorem scratio : FnScope ["top", "low", "part"] ["top", "low"] (defScope sratio) := ⟨rfl, rfl, rfl, by decide +kernel, rfl, by decide +kernel, by decide +kernel⟩
theorem bdratio : BindsOf "ratio" sratio ["top", "low"] := fun _ _ _ _ _ _ us hl => match us, hl with | [_, _], _ => rfl
theorem okratio (T : Tx K mg)  : Gd P w K mg base 1 "ratio" ["top", "low"] (spP K S_ratio) := by
  refine (T.dfn 4 rfl).gdP scratio bdratio (fun ds d h => match ds, h with | [_, _], _ => rfl) (by decide) ?_
  intro f cdv A outer s H E hr
  have nd := scratio.nd
  refine ⟨_, (pss_cons (ps_set (i := 2) nd rfl (Or.inl rfl) (pe_ifExp (pt_cmpR op_gt (pv 1) pe_int (nomark _)) (pe_callBfun cr_gcd rfl T.gcd (pa_cons (pv 0) (pa_cons (pv 1) pa_nil))) (pe_un un_neg (pe_callBfun cr_gcd rfl T.gcd (pa_cons (pv 0) (pa_cons (pv 1) pa_nil))))))
      (pss_one (ps_ret (pe_tup (pa_cons (pe_op op_fdv (pv 0) (pv 2)) (pa_cons (pe_op op_fdv (pv 1) (pv 2)) pa_nil)))))), ?_⟩
  try simp only [cxK, cxN]
  intro ds d h
  rcases ds with _ | ⟨a, _ | ⟨b, _ | ⟨z, zs⟩⟩⟩ <;> (try exact h.elim)
  change EvS _ _ _ [Sl.dat _, Sl.dat _, Sl.no] _ _
  obtain ⟨t, l, rfl, rfl, hl, hd, rfl⟩ := h
  walk_at "ev"
  refine brT (decide_eq_true hl) ?_
  walk_at "ev"
  refine r2_i (hd.dv hl (.inl rfl)) ?_
  walk_at "ev"
  refine r2_i (hd.dv hl (.inr rfl)) ?_
  walk_at "ev"
  have hg := gcd_pos_of (t := t) hl
  show Sl.dat (PyData.tuple [.int (t.fdiv _), .int (l.fdiv _)]) = _
  rw [Int.fdiv_eq_ediv_of_nonneg _ (by omega), Int.fdiv_eq_ediv_of_nonneg _ (by omega)]
  rfl
theorem ev_ratio {B : Bx} {T : Th} {Γ : List Sl} {Q : Sl → Prop} {tl : TA} (h : EvA B T tl Γ fun ss => ∃ t l, ss = [.dat (.int t), .dat (.int l)] ∧ (0 < l ∧ Dok t l) ∧ Q (.dat (qD (ratio t l)))) : EvT B T (tCall (spP B.K S_ratio) [] E0 tl) Γ Q :=
  ev_callP fun σ H k o c => h σ H _ o fun vs H' ss o' kp r ⟨t, l, e, ⟨h1, h2⟩, q⟩ => c vs H' ss o' kp r ⟨[.int t, .int l], _, e, ⟨t, l, rfl, rfl, h1, h2, rfl⟩, q⟩
def S_plus : List PyData → PyData → Prop
  | [a, b], d => ∃ x y : Qn, a = qD x ∧ b = qD y ∧ AddC x y ∧ d = qD (qadd x y)
  | _, _ => False
theorem scplus : FnScope ["one", "two"] ["one", "two"] (defScope splus) := ⟨rfl, rfl, rfl, by decide +kernel, rfl, by decide +kernel, by decide +kernel⟩
theorem bdplus : BindsOf "plus" splus ["one", "two"] := fun _ _ _ _ _ _ us hl => match us, hl with | [_, _], _ => rfl
theorem okplus (T : Tx K mg) (Gratio : Gd P w K mg base 1 "ratio" ["top", "low"] (spP K S_ratio)) : Gd P w K mg base 2 "plus" ["one", "two"] (spP K S_plus) := by
  refine (T.dfn 5 rfl).gdP scplus bdplus (fun ds d h => match ds, h with | [_, _], _ => rfl) (by decide) ?_
  intro f cdv A outer s H E hr
  have nd := scplus.nd
  refine ⟨_, (pss_one (ps_ret (pe_callG Gratio hr rfl (pa_cons (pe_op op_add (pe_op op_mulW (pe_ix ix_tup (pv 0) pe_int (fun _ _ => rfl)) (pe_ix ix_tup (pv 1) pe_int (fun _ _ => rfl))) (pe_op op_mulW (pe_ix ix_tup (pv 1) pe_int (fun _ _ => rfl)) (pe_ix ix_tup (pv 0) pe_int (fun _ _ => rfl)))) (pa_cons (pe_op op_mulW (pe_ix ix_tup (pv 0) pe_int (fun _ _ => rfl)) (pe_ix ix_tup (pv 1) pe_int (fun _ _ => rfl))) pa_nil))))), ?_⟩
  try simp only [cxK, cxN]
  intro ds d h
  rcases ds with _ | ⟨a, _ | ⟨b, _ | ⟨z, zs⟩⟩⟩ <;> (try exact h.elim)
  change EvS _ _ _ [Sl.dat _, Sl.dat _] _ _
  obtain ⟨x, y, rfl, rfl, ⟨h1, h2, h3, h4, h5, h6⟩, rfl⟩ := h
  walk_at "ev"
  refine ev_ratio ?_
  walk_at "ev"
  exact ⟨_, _, rfl, ⟨Int.mul_pos h1 h2, h6⟩, rfl⟩
def S_minus : List PyData → PyData → Prop
  | [a, b], d => ∃ x y : Qn, a = qD x ∧ b = qD y ∧ SubC x y ∧ d = qD (qsub x y)
  | _, _ => False
theorem scminus : FnScope ["one", "two"] ["one", "two"] (defScope sminus) := ⟨rfl, rfl, rfl, by decide +kernel, rfl, by decide +kernel, by decide +kernel⟩
theorem bdminus : BindsOf "minus" sminus ["one", "two"] := fun _ _ _ _ _ _ us hl => match us, hl with | [_, _], _ => rfl
theorem okminus (T : Tx K mg) (Gratio : Gd P w K mg base 1 "ratio" ["top", "low"] (spP K S_ratio)) : Gd P w K mg base 2 "minus" ["one", "two"] (spP K S_minus) := by
  refine (T.dfn 6 rfl).gdP scminus bdminus (fun ds d h => match ds, h with | [_, _], _ => rfl) (by decide) ?_
  intro f cdv A outer s H E hr
  have nd := scminus.nd
  refine ⟨_, (pss_one (ps_ret (pe_callG Gratio hr rfl (pa_cons (pe_op op_sub (pe_op op_mulW (pe_ix ix_tup (pv 0) pe_int (fun _ _ => rfl)) (pe_ix ix_tup (pv 1) pe_int (fun _ _ => rfl))) (pe_op op_mulW (pe_ix ix_tup (pv 1) pe_int (fun _ _ => rfl)) (pe_ix ix_tup (pv 0) pe_int (fun _ _ => rfl)))) (pa_cons (pe_op op_mulW (pe_ix ix_tup (pv 0) pe_int (fun _ _ => rfl)) (pe_ix ix_tup (pv 1) pe_int (fun _ _ => rfl))) pa_nil))))), ?_⟩
  try simp only [cxK, cxN]
  intro ds d h
  rcases ds with _ | ⟨a, _ | ⟨b, _ | ⟨z, zs⟩⟩⟩ <;> (try exact h.elim)
  change EvS _ _ _ [Sl.dat _, Sl.dat _] _ _
  obtain ⟨x, y, rfl, rfl, ⟨h1, h2, h3, h4, h5, h6⟩, rfl⟩ := h
  walk_at "ev"
  refine ev_ratio ?_
  walk_at "ev"
  exact ⟨_, _, rfl, ⟨Int.mul_pos h1 h2, h6⟩, rfl⟩
def S_times : List PyData → PyData → Prop
  | [a, b], d => ∃ x y : Qn, a = qD x ∧ b = qD y ∧ MulC x y ∧ d = qD (qmul x y)
  | _, _ => False
theorem sctimes : FnScope ["one", "two"] ["one", "two"] (defScope stimes) := ⟨rfl, rfl, rfl, by decide +kernel, rfl, by decide +kernel, by decide +kernel⟩
theorem bdtimes : BindsOf "times" stimes ["one", "two"] := fun _ _ _ _ _ _ us hl => match us, hl with | [_, _], _ => rfl
theorem oktimes (T : Tx K mg) (Gratio : Gd P w K mg base 1 "ratio" ["top", "low"] (spP K S_ratio)) : Gd P w K mg base 2 "times" ["one", "two"] (spP K S_times) := by
  refine (T.dfn 7 rfl).gdP sctimes bdtimes (fun ds d h => match ds, h with | [_, _], _ => rfl) (by decide) ?_
  intro f cdv A outer s H E hr
  have nd := sctimes.nd
  refine ⟨_, (pss_one (ps_ret (pe_callG Gratio hr rfl (pa_cons (pe_op op_mulW (pe_ix ix_tup (pv 0) pe_int (fun _ _ => rfl)) (pe_ix ix_tup (pv 1) pe_int (fun _ _ => rfl))) (pa_cons (pe_op op_mulW (pe_ix ix_tup (pv 0) pe_int (fun _ _ => rfl)) (pe_ix ix_tup (pv 1) pe_int (fun _ _ => rfl))) pa_nil))))), ?_⟩
  try simp only [cxK, cxN]
  intro ds d h
  rcases ds with _ | ⟨a, _ | ⟨b, _ | ⟨z, zs⟩⟩⟩ <;> (try exact h.elim)
  change EvS _ _ _ [Sl.dat _, Sl.dat _] _ _
  obtain ⟨x, y, rfl, rfl, ⟨h1, h2, h3, h4, h5⟩, rfl⟩ := h
  walk_at "ev"
  refine ev_ratio ?_
  walk_at "ev"
  exact ⟨_, _, rfl, ⟨Int.mul_pos h1 h2, h5⟩, rfl⟩
theorem ev_plus {B : Bx} {T : Th} {Γ : List Sl} {Q : Sl → Prop} {tl : TA} (h : EvA B T tl Γ fun ss => ∃ x y, ss = [.dat (qD x), .dat (qD y)] ∧ AddC x y ∧ Q (.dat (qD (qadd x y)))) : EvT B T (tCall (spP B.K S_plus) [] E0 tl) Γ Q :=
  ev_callP fun σ H k o c => h σ H _ o fun vs H' ss o' kp r ⟨x, y, e, h1, q⟩ => c vs H' ss o' kp r ⟨[qD x, qD y], _, e, ⟨x, y, rfl, rfl, h1, rfl⟩, q⟩
theorem ev_minus {B : Bx} {T : Th} {Γ : List Sl} {Q : Sl → Prop} {tl : TA} (h : EvA B T tl Γ fun ss => ∃ x y, ss = [.dat (qD x), .dat (qD y)] ∧ SubC x y ∧ Q (.dat (qD (qsub x y)))) : EvT B T (tCall (spP B.K S_minus) [] E0 tl) Γ Q :=
  ev_callP fun σ H k o c => h σ H _ o fun vs H' ss o' kp r ⟨x, y, e, h1, q⟩ => c vs H' ss o' kp r ⟨[qD x, qD y], _, e, ⟨x, y, rfl, rfl, h1, rfl⟩, q⟩
theorem ev_times {B : Bx} {T : Th} {Γ : List Sl} {Q : Sl → Prop} {tl : TA} (h : EvA B T tl Γ fun ss => ∃ x y, ss = [.dat (qD x), .dat (qD y)] ∧ MulC x y ∧ Q (.dat (qD (qmul x y)))) : EvT B T (tCall (spP B.K S_times) [] E0 tl) Γ Q :=
  ev_callP fun σ H k o c => h σ H _ o fun vs H' ss o' kp r ⟨x, y, e, h1, q⟩ => c vs H' ss o' kp r ⟨[qD x, qD y], _, e, ⟨x, y, rfl, rfl, h1, rfl⟩, q⟩
def S_sign_of : List PyData → PyData → Prop
  | [a], d => ∃ x : Qn, a = qD x ∧ d = .int (sgn x.1)
  | _, _ => False
theorem sgn_b2i (i : Int) : b2i (decide (0 < i)) - b2i (decide (i < 0)) = sgn i := by
  unfold sgn
  by_cases h : 0 < i
  · rw [if_pos h, decide_eq_true h, decide_eq_false (by omega)]
    rfl
  · by_cases h2 : i < 0
    · rw [if_neg h, if_pos h2, decide_eq_false h, decide_eq_true h2]
      rfl
    · rw [if_neg h, if_neg h2, decide_eq_false h, decide_eq_false h2]
      rfl
theorem scsign_of : FnScope ["one"] ["one"] (defScope ssign_of) := ⟨rfl, rfl, rfl, by decide +kernel, rfl, by decide +kernel, by decide +kernel⟩
theorem bdsign_of : BindsOf "sign_of" ssign_of ["one"] := fun _ _ _ _ _ _ us hl => match us, hl with | [_], _ => rfl
theorem oksign_of (T : Tx K mg)  : Gd P w K mg base 1 "sign_of" ["one"] (spP K S_sign_of) := by
  refine (T.dfn 8 rfl).gdP scsign_of bdsign_of (fun ds d h => match ds, h with | [_], _ => rfl) (by decide) ?_
  intro f cdv A outer s H E hr
  have nd := scsign_of.nd
  refine ⟨_, (pss_one (ps_ret (pe_op op_subB (pe_cmpR op_gt (pe_ix ix_tup (pv 0) pe_int (fun _ _ => rfl)) pe_int (nomark _)) (pe_cmpR op_lt (pe_ix ix_tup (pv 0) pe_int (fun _ _ => rfl)) pe_int (nomark _))))), ?_⟩
  try simp only [cxK, cxN]
  intro ds d h
  rcases ds with _ | ⟨a, _ | ⟨z, zs⟩⟩ <;> (try exact h.elim)
  change EvS _ _ _ [Sl.dat _] _ _
  obtain ⟨x, rfl, rfl⟩ := h
  walk_at "ev"
  exact congrArg (fun i => Sl.dat (.int i)) (sgn_b2i _)
theorem ev_sign_of {B : Bx} {T : Th} {Γ : List Sl} {Q : Sl → Prop} {tl : TA} (h : EvA B T tl Γ fun ss => ∃ x : Qn, ss = [.dat (qD x)] ∧ Q (.dat (.int (sgn x.1)))) : EvT B T (tCall (spP B.K S_sign_of) [] E0 tl) Γ Q :=
  ev_callP fun σ H k o c => h σ H _ o fun vs H' ss o' kp r ⟨x, e, q⟩ => c vs H' ss o' kp r ⟨[qD x], _, e, ⟨x, rfl, rfl⟩, q⟩
/-! what is right -/
theorem isA_ii (i : Int) : isA (.int i) "int" = some true := (by decide +kernel : kitB "int" "int" = some true)
theorem isA_ib (i : Int) : isA (.int i) "bool" = some false := (by decide +kernel : kitB "int" "bool" = some false)
theorem isA_bb (i : Bool) : isA (.bool i) "bool" = some true := (by decide +kernel : kitB "bool" "bool" = some true)
theorem isA_tt (i : List PyData) : isA (.tuple i) "tuple" = some true := (by decide +kernel : kitB "tuple" "tuple" = some true)
theorem isA_ss (i : Str) : isA (.str i) "str" = some true := (by decide +kernel : kitB "str" "str" = some true)
def S_is_whole : List PyData → PyData → Prop
  | [a], d => ∃ i : Int, a = .int i ∧ d = .bool true
  | _, _ => False
theorem scis_whole : FnScope ["value"] ["value"] (defScope sis_whole) := ⟨rfl, rfl, rfl, by decide +kernel, rfl, by decide +kernel, by decide +kernel⟩
theorem bdis_whole : BindsOf "is_whole" sis_whole ["value"] := fun _ _ _ _ _ _ us hl => match us, hl with | [_], _ => rfl
theorem okis_whole (T : Tx K mg)  : Gd P w K mg base 1 "is_whole" ["value"] (spP K S_is_whole) := by
  refine (T.dfn 0 rfl).gdP scis_whole bdis_whole (fun ds d h => match ds, h with | [_], _ => rfl) (by decide) ?_
  intro f cdv A outer s H E hr
  have nd := scis_whole.nd
  refine ⟨_, (pss_one (ps_ret (pe_and (pe_callB call_isi (by rfl) (T.free "isinstance") (by decide +kernel) (pa_cons (pv 0) (pa_cons (pe_bltn (v := .ty "int") (by rfl) (T.free "int") (by decide +kernel) rfl) pa_nil))) (pe_one (pe_not (pe_callB call_isi (by rfl) (T.free "isinstance") (by decide +kernel) (pa_cons (pv 0) (pa_cons (pe_bltn (v := .ty "bool") (by rfl) (T.free "bool") (by decide +kernel) rfl) pa_nil)))))))), ?_⟩
  try simp only [cxK, cxN]
  intro ds d h
  rcases ds with _ | ⟨a, _ | ⟨z, zs⟩⟩ <;> (try exact h.elim)
  change EvS _ _ _ [Sl.dat _] _ _
  obtain ⟨i, rfl, rfl⟩ := h
  walk_at "ev"
  refine cb_isi (isA_ii i) ?_
  walk_at "ev"
  refine brT rfl ?_
  walk_at "ev"
  refine cb_isi (isA_ib i) ?_
  walk_at "ev"
  rfl
def S_is_truth : List PyData → PyData → Prop
  | [a], d => ∃ i : Bool, a = .bool i ∧ d = .bool true
  | _, _ => False
theorem scis_truth : FnScope ["value"] ["value"] (defScope sis_truth) := ⟨rfl, rfl, rfl, by decide +kernel, rfl, by decide +kernel, by decide +kernel⟩
theorem bdis_truth : BindsOf "is_truth" sis_truth ["value"] := fun _ _ _ _ _ _ us hl => match us, hl with | [_], _ => rfl
theorem okis_truth (T : Tx K mg)  : Gd P w K mg base 1 "is_truth" ["value"] (spP K S_is_truth) := by
  refine (T.dfn 1 rfl).gdP scis_truth bdis_truth (fun ds d h => match ds, h with | [_], _ => rfl) (by decide) ?_
  intro f cdv A outer s H E hr
  have nd := scis_truth.nd
  refine ⟨_, (pss_one (ps_ret (pe_callB call_isi (by rfl) (T.free "isinstance") (by decide +kernel) (pa_cons (pv 0) (pa_cons (pe_bltn (v := .ty "bool") (by rfl) (T.free "bool") (by decide +kernel) rfl) pa_nil))))), ?_⟩
  try simp only [cxK, cxN]
  intro ds d h
  rcases ds with _ | ⟨a, _ | ⟨z, zs⟩⟩ <;> (try exact h.elim)
  change EvS _ _ _ [Sl.dat _] _ _
  obtain ⟨i, rfl, rfl⟩ := h
  walk_at "ev"
  refine cb_isi (isA_bb i) ?_
  rfl
def S_are_wholes : List PyData → PyData → Prop
  | [a, b], d => ∃ (ds : List PyData) (m : Int), a = .tuple ds ∧ b = .int m ∧ ds.length ≤ 1000 ∧ (((ds.length : Int) = m ∧ (∀ x ∈ ds, ∃ i : Int, x = .int i) ∧ d = .bool true) ∨ ((ds.length : Int) ≠ m ∧ d = .bool false))
  | _, _ => False
theorem scare_wholes : FnScope ["value", "many", "each"] ["value", "many"] (defScope sare_wholes) := ⟨rfl, rfl, rfl, by decide +kernel, rfl, by decide +kernel, by decide +kernel⟩
theorem bdare_wholes : BindsOf "are_wholes" sare_wholes ["value", "many"] := fun _ _ _ _ _ _ us hl => match us, hl with | [_, _], _ => rfl
theorem okare_wholes (T : Tx K mg) (Gis_whole : Gd P w K mg base 1 "is_whole" ["value"] (spP K S_is_whole)) : Gd P w K mg base 2 "are_wholes" ["value", "many"] (spP K S_are_wholes) := by
  refine (T.dfn 2 rfl).gdP scare_wholes bdare_wholes (fun ds d h => match ds, h with | [_, _], _ => rfl) (by decide) ?_
  intro f cdv A outer s H E hr
  have nd := scare_wholes.nd
  refine ⟨_, (pss_one (ps_ret (pe_and (pe_callB call_isi (by rfl) (T.free "isinstance") (by decide +kernel) (pa_cons (pv 0) (pa_cons (pe_bltn (v := .ty "tuple") (by rfl) (T.free "tuple") (by decide +kernel) rfl) pa_nil))) (pe_and (pe_cmpR op_eq (pe_callB call_len (by rfl) (T.free "len") (by decide +kernel) (pa_cons (pv 0) pa_nil)) (pv 1) (nomark _)) (pe_one (pe_callB (cr_all rfl) (by rfl) (T.free "all") (by decide +kernel) (pa_cons (pe_lc (own := [("each", 2)]) (g := gName 2) rfl nd (pi_tup (pv 0)) (blkOk_by (own := [("each", 2)]) (N := ["value", "many", "each"]) (sc := defScope sare_wholes) (by decide +kernel)) (fun _ _ _ _ _ => pg_name (i := 2) nd rfl (Or.inl rfl)) (fun _ _ _ _ _ => pts_nil) (fun _ _ _ _ _ => (pe_callG Gis_whole hr rfl (pa_cons (pv 2) pa_nil)))) pa_nil))))))), ?_⟩
  try simp only [cxK, cxN]
  intro ds d h
  rcases ds with _ | ⟨a, _ | ⟨b, _ | ⟨z, zs⟩⟩⟩ <;> (try exact h.elim)
  change EvS _ _ _ [Sl.dat _, Sl.dat _, Sl.no] _ _
  obtain ⟨ds, m, rfl, rfl, hl, h⟩ := h
  walk_at "ev"
  refine cb_isi (isA_tt _) ?_
  walk_at "ev"
  refine brT rfl ?_
  walk_at "ev"
  rcases h with ⟨h1, h2, rfl⟩ | ⟨h1, rfl⟩
  · refine brT (decide_eq_true h1) ?_
    walk_at "ev"
    refine ev_lcT (p := fun _ => true) (f := fun _ => .bool true) ?_
    walk_at "ev"
    refine ⟨ds, rfl, hl, fun d _ q => ec_yes rfl, fun d hd _ q => ?_, ?_⟩
    · obtain ⟨i, rfl⟩ := h2 d hd
      refine ev_callP ?_
      walk_at "ev"
      exact ⟨[.int i], _, rfl, ⟨i, rfl, rfl⟩, rfl⟩
    · walk_at "ev"
      have e : (ds.filter fun _ => true).map (fun _ => PyData.bool true) = (List.replicate ds.length true).map .bool := by
        rw [List.filter_eq_self.mpr (fun _ _ => rfl), List.map_replicate]
        exact (List.map_const ..)
      rw [e]
      refine cb_all ?_
      show Sl.dat (.bool _) = Sl.dat (.bool true)
      rw [show (List.replicate ds.length true).all id = true by simp]
  · exact brF (decide_eq_false h1) rfl
abbrev nD : Num → PyData
  | .fr x => qD x
  | .rt p q s up => .tuple [.int p, .int q, .int s, .bool up]
def S_is_ratio : List PyData → PyData → Prop
  | [a], d => (∃ x : Qn, a = qD x ∧ Red x ∧ d = .bool true) ∨ ∃ p q s up, a = nD (.rt p q s up) ∧ d = .bool false
  | _, _ => False
theorem scis_ratio : FnScope ["value"] ["value"] (defScope sis_ratio) := ⟨rfl, rfl, rfl, by decide +kernel, rfl, by decide +kernel, by decide +kernel⟩
theorem bdis_ratio : BindsOf "is_ratio" sis_ratio ["value"] := fun _ _ _ _ _ _ us hl => match us, hl with | [_], _ => rfl
theorem okis_ratio (T : Tx K mg) (Gare_wholes : Gd P w K mg base 2 "are_wholes" ["value", "many"] (spP K S_are_wholes)) : Gd P w K mg base 3 "is_ratio" ["value"] (spP K S_is_ratio) := by
  refine (T.dfn 3 rfl).gdP scis_ratio bdis_ratio (fun ds d h => match ds, h with | [_], _ => rfl) (by decide) ?_
  intro f cdv A outer s H E hr
  have nd := scis_ratio.nd
  refine ⟨_, (pss_one (ps_ret (pe_and (pe_callG Gare_wholes hr rfl (pa_cons (pv 0) (pa_cons pe_int pa_nil))) (pe_and (pe_cmpR op_gt (pe_ix ix_tup (pv 0) pe_int (fun _ _ => rfl)) pe_int (nomark _)) (pe_one (pe_cmpR op_eq (pe_callBfun cr_gcd rfl T.gcd (pa_cons (pe_ix ix_tup (pv 0) pe_int (fun _ _ => rfl)) (pa_cons (pe_ix ix_tup (pv 0) pe_int (fun _ _ => rfl)) pa_nil))) pe_int (nomark _))))))), ?_⟩
  try simp only [cxK, cxN]
  intro ds d h
  rcases ds with _ | ⟨a, _ | ⟨z, zs⟩⟩ <;> (try exact h.elim)
  change EvS _ _ _ [Sl.dat _] _ _
  rcases h with ⟨x, rfl, hx, rfl⟩ | ⟨p, q, s, up, rfl, rfl⟩
  · walk_at "ev"
    refine ev_callP ?_
    walk_at "ev"
    refine ⟨[qD x, .int 2], _, rfl, ⟨_, _, rfl, rfl, by simp, .inl ⟨rfl, ?_, rfl⟩⟩, ?_⟩
    · intro y hy
      rcases List.mem_cons.mp hy with rfl | hy
      · exact ⟨_, rfl⟩
      · rw [List.mem_singleton] at hy
        exact ⟨_, hy⟩
    walk_at "ev"
    refine brT rfl ?_
    walk_at "ev"
    refine brT (decide_eq_true hx.1) ?_
    walk_at "ev"
    show Sl.dat (.bool _) = _
    rw [hx.2]
    rfl
  · walk_at "ev"
    refine ev_callP ?_
    walk_at "ev"
    refine ⟨[nD (.rt p q s up), .int 2], _, rfl, ⟨_, _, rfl, rfl, by simp, .inr ⟨by simp, rfl⟩⟩, ?_⟩
    walk_at "ev"
    exact brF rfl rfl
def S_is_square : List PyData → PyData → Prop
  | [a], d => ∃ n : Int, a = .int n ∧ 0 ≤ n ∧ Sz 13400 n ∧ d = .bool (isSq n)
  | _, _ => False
theorem isq_le {n : Int} (h : 0 ≤ n) : 0 ≤ isq n ∧ isq n ≤ n := by
  have := (PySem.Float64.isqrt_spec n.toNat).1
  unfold isq
  generalize PySem.Float64.isqrt n.toNat = r at *
  refine ⟨by omega, ?_⟩
  rcases Nat.eq_zero_or_pos r with z | z
  · omega
  · have : r * 1 ≤ r * r := Nat.mul_le_mul_left _ z
    omega
theorem scis_square : FnScope ["number"] ["number"] (defScope sis_square) := ⟨rfl, rfl, rfl, by decide +kernel, rfl, by decide +kernel, by decide +kernel⟩
theorem bdis_square : BindsOf "is_square" sis_square ["number"] := fun _ _ _ _ _ _ us hl => match us, hl with | [_], _ => rfl
theorem okis_square (T : Tx K mg)  : Gd P w K mg base 1 "is_square" ["number"] (spP K S_is_square) := by
  refine (T.dfn 9 rfl).gdP scis_square bdis_square (fun ds d h => match ds, h with | [_], _ => rfl) (by decide) ?_
  intro f cdv A outer s H E hr
  have nd := scis_square.nd
  refine ⟨_, (pss_one (ps_ret (pe_cmpR op_eq (pe_op op_sq (pe_callBfun cr_isq rfl T.isqrt (pa_cons (pv 0) pa_nil)) pe_int) (pv 0) (nomark _)))), ?_⟩
  try simp only [cxK, cxN]
  intro ds d h
  rcases ds with _ | ⟨a, _ | ⟨z, zs⟩⟩ <;> (try exact h.elim)
  change EvS _ _ _ [Sl.dat _] _ _
  obtain ⟨n, rfl, h0, hs, rfl⟩ := h
  walk_at "ev"
  refine cb_isq h0 hs ?_
  walk_at "ev"
  have hb := isq_le h0
  have hz : Sz 13400 (isq n) := hs.le (by omega)
  refine r2_i (C := CSq) (show CSq (isq n) 2 from ⟨rfl, hz.mono (by decide)⟩) ?_
  walk_at "ev"
  rfl
theorem ev_is_square {B : Bx} {T : Th} {Γ : List Sl} {Q : Sl → Prop} {tl : TA} (h : EvA B T tl Γ fun ss => ∃ n : Int, ss = [.dat (.int n)] ∧ (0 ≤ n ∧ Sz 13400 n) ∧ Q (.dat (.bool (isSq n)))) : EvT B T (tCall (spP B.K S_is_square) [] E0 tl) Γ Q :=
  ev_callP fun σ H k o c => h σ H _ o fun vs H' ss o' kp r ⟨x, e, ⟨h1, h2⟩, q⟩ => c vs H' ss o' kp r ⟨[.int x], _, e, ⟨x, rfl, h1, h2, rfl⟩, q⟩
def S_is_rooted : List PyData → PyData → Prop
  | [a], d => ∃ p q s up, a = nD (.rt p q s up) ∧ NumOk 6000 (.rt p q s up) ∧ d = .bool true
  | _, _ => False
theorem scis_rooted : FnScope ["value", "first", "second", "third", "square"] ["value"] (defScope sis_rooted) := ⟨rfl, rfl, rfl, by decide +kernel, rfl, by decide +kernel, by decide +kernel⟩
theorem bdis_rooted : BindsOf "is_rooted" sis_rooted ["value"] := fun _ _ _ _ _ _ us hl => match us, hl with | [_], _ => rfl
theorem okis_rooted (T : Tx K mg) (Gare_wholes : Gd P w K mg base 2 "are_wholes" ["value", "many"] (spP K S_are_wholes)) (Gis_truth : Gd P w K mg base 1 "is_truth" ["value"] (spP K S_is_truth)) (Gis_square : Gd P w K mg base 1 "is_square" ["number"] (spP K S_is_square)) : Gd P w K mg base 3 "is_rooted" ["value"] (spP K S_is_rooted) := by
  refine (T.dfn 10 rfl).gdP scis_rooted bdis_rooted (fun ds d h => match ds, h with | [_], _ => rfl) (by decide) ?_
  intro f cdv A outer s H E hr
  have nd := scis_rooted.nd
  refine ⟨_, (pss_cons (ps_if (PW.pt (pw_or (pt_not (pt_val (pe_callB call_isi (by rfl) (T.free "isinstance") (by decide +kernel) (pa_cons (pv 0) (pa_cons (pe_bltn (v := .ty "tuple") (by rfl) (T.free "tuple") (by decide +kernel) rfl) pa_nil))))) (pw_or (pt_cmpR op_ne (pe_callB call_len (by rfl) (T.free "len") (by decide +kernel) (pa_cons (pv 0) pa_nil)) pe_int (nomark _)) (pw_or (pt_not (pt_val (pe_callG Gare_wholes hr rfl (pa_cons (pe_slice sl_tup (pv 0) po_none (po_some pe_int)) (pa_cons pe_int pa_nil))))) (pw_or1 (pt_not (pt_val (pe_callG Gis_truth (hr.mono (by decide)) rfl (pa_cons (pe_ix ix_tup (pv 0) pe_int (fun _ _ => rfl)) pa_nil))))))))) (pss_one (ps_ret pe_bl)) pss_nil)
      (pss_cons (ps_asg (pe_slice sl_tup (pv 0) po_none (po_some pe_int)) (pg_tup rfl (pgs_cons (pg_name (i := 1) nd rfl (Or.inl rfl)) (pgs_cons (pg_name (i := 2) nd rfl (Or.inl rfl)) (pgs_cons (pg_name (i := 3) nd rfl (Or.inl rfl)) pgs_nil)))))
      (pss_cons (ps_set (i := 4) nd rfl (Or.inl rfl) (pe_op op_sub (pe_op op_mulW (pv 2) (pv 2)) (pe_op op_mulW (pe_op op_mulW pe_int (pv 1)) (pv 3))))
      (pss_one (ps_ret (pe_and (pe_cmpR op_gt (pv 1) pe_int (nomark _)) (pe_and (pe_cmpR op_eq (pe_callBfun cr_gcd rfl T.gcd (pa_cons (pe_callBfun cr_gcd rfl T.gcd (pa_cons (pv 1) (pa_cons (pv 2) pa_nil))) (pa_cons (pv 3) pa_nil))) pe_int (nomark _)) (pe_and (pe_cmpR op_gt (pv 4) pe_int (nomark _)) (pe_one (pe_not (pe_callG Gis_square (hr.mono (by decide)) rfl (pa_cons (pv 4) pa_nil)))))))))))), ?_⟩
  try simp only [cxK, cxN]
  intro ds d h
  rcases ds with _ | ⟨a, _ | ⟨z, zs⟩⟩ <;> (try exact h.elim)
  change EvS _ _ _ [Sl.dat _, Sl.no, Sl.no, Sl.no, Sl.no] _ _
  obtain ⟨p, q, s, up, rfl, ⟨h1, h2, h3, h4, s1, s2, s3⟩, rfl⟩ := h
  have hd : Sz 13400 (q * q - 4 * p * s) := ((s2.mul s2).sub ((sz_4.mul s1).mul s3)).mono (by decide)
  walk_at "ev"
  refine cb_isi (isA_tt _) ?_
  walk_at "ev"
  refine brF' rfl ?_
  walk_at "ev"
  refine brF' rfl ?_
  walk_at "ev"
  refine ev_callP ?_
  walk_at "ev"
  refine ev_slT (n := 4) sl_no (sl_int 3) (by decide) ?_
  walk_at "ev"
  refine ⟨_, [.int p, .int q, .int s], rfl, rfl, rfl, ?_⟩
  walk_at "ev"
  refine ⟨[.tuple [.int p, .int q, .int s], .int 3], _, rfl, ⟨_, _, rfl, rfl, by simp, .inl ⟨rfl, ?_, rfl⟩⟩, ?_⟩
  · intro y hy
    simp only [List.mem_cons, List.not_mem_nil, or_false] at hy
    rcases hy with rfl | rfl | rfl <;> exact ⟨_, rfl⟩
  walk_at "ev"
  refine brF' rfl ?_
  walk_at "ev"
  refine ev_callP ?_
  walk_at "ev"
  refine ⟨[.bool up], _, rfl, ⟨_, rfl, rfl⟩, ?_⟩
  walk_at "ev"
  refine brF rfl ?_
  walk_at "ev"
  refine ev_slT (n := 4) sl_no (sl_int 3) (by decide) ?_
  walk_at "ev"
  refine ⟨_, [.int p, .int q, .int s], rfl, rfl, rfl, ?_⟩
  walk_at "ev"
  refine brT (decide_eq_true h1) ?_
  walk_at "ev"
  refine brT (decide_eq_true (by show ((Nat.gcd ((Nat.gcd p.natAbs q.natAbs : Nat) : Int).natAbs s.natAbs : Nat) : Int) = 1; rw [Int.natAbs_natCast, h2]; rfl)) ?_
  walk_at "ev"
  refine brT (decide_eq_true h3) ?_
  walk_at "ev"
  refine ev_is_square ?_
  walk_at "ev"
  refine ⟨_, rfl, ⟨Int.le_of_lt h3, hd⟩, ?_⟩
  walk_at "ev"
  show Sl.dat (.bool (!isSq (disc p q s))) = _
  rw [h4]
  rfl
def S_is_numbered : List PyData → PyData → Prop
  | [a], d => ∃ n, a = nD n ∧ NumOk 6000 n ∧ d = .bool true
  | _, _ => False
theorem scis_numbered : FnScope ["value"] ["value"] (defScope sis_numbered) := ⟨rfl, rfl, rfl, by decide +kernel, rfl, by decide +kernel, by decide +kernel⟩
theorem bdis_numbered : BindsOf "is_numbered" sis_numbered ["value"] := fun _ _ _ _ _ _ us hl => match us, hl with | [_], _ => rfl
theorem okis_numbered (T : Tx K mg) (Gis_ratio : Gd P w K mg base 3 "is_ratio" ["value"] (spP K S_is_ratio)) (Gis_rooted : Gd P w K mg base 3 "is_rooted" ["value"] (spP K S_is_rooted)) : Gd P w K mg base 4 "is_numbered" ["value"] (spP K S_is_numbered) := by
  refine (T.dfn 11 rfl).gdP scis_numbered bdis_numbered (fun ds d h => match ds, h with | [_], _ => rfl) (by decide) ?_
  intro f cdv A outer s H E hr
  have nd := scis_numbered.nd
  refine ⟨_, (pss_one (ps_ret (pe_or (pe_callG Gis_ratio hr rfl (pa_cons (pv 0) pa_nil)) (pe_one (pe_callG Gis_rooted hr rfl (pa_cons (pv 0) pa_nil)))))), ?_⟩
  try simp only [cxK, cxN]
  intro ds d h
  rcases ds with _ | ⟨a, _ | ⟨z, zs⟩⟩ <;> (try exact h.elim)
  change EvS _ _ _ [Sl.dat _] _ _
  obtain ⟨n, rfl, hn, rfl⟩ := h
  cases n with
  | fr x =>
    walk_at "ev"
    refine ev_callP ?_
    walk_at "ev"
    refine ⟨[qD x], _, rfl, .inl ⟨x, rfl, hn.1, rfl⟩, ?_⟩
    walk_at "ev"
    exact brT' rfl rfl
  | rt p q s up =>
    walk_at "ev"
    refine ev_callP ?_
    walk_at "ev"
    refine ⟨[nD (.rt p q s up)], _, rfl, .inr ⟨p, q, s, up, rfl, rfl⟩, ?_⟩
    walk_at "ev"
    refine brF' rfl ?_
    walk_at "ev"
    refine ev_callP ?_
    walk_at "ev"
    exact ⟨[nD (.rt p q s up)], _, rfl, ⟨p, q, s, up, rfl, hn, rfl⟩, rfl⟩
/-! parts -/
abbrev pD (z : Qn × Qn × Int) : PyData := .tuple [qD z.1, qD z.2.1, .int z.2.2]
def S_parts_of : List PyData → PyData → Prop
  | [a], d => ∃ n, a = nD n ∧ PtC n ∧ d = pD (partsOf n)
  | _, _ => False
theorem scparts_of : FnScope ["number", "first", "second", "third", "is_upper"] ["number"] (defScope sparts_of) := ⟨rfl, rfl, rfl, by decide +kernel, rfl, by decide +kernel, by decide +kernel⟩
theorem bdparts_of : BindsOf "parts_of" sparts_of ["number"] := fun _ _ _ _ _ _ us hl => match us, hl with | [_], _ => rfl
theorem okparts_of (T : Tx K mg) (Gratio : Gd P w K mg base 1 "ratio" ["top", "low"] (spP K S_ratio)) : Gd P w K mg base 2 "parts_of" ["number"] (spP K S_parts_of) := by
  refine (T.dfn 12 rfl).gdP scparts_of bdparts_of (fun ds d h => match ds, h with | [_], _ => rfl) (by decide) ?_
  intro f cdv A outer s H E hr
  have nd := scparts_of.nd
  refine ⟨_, (pss_cons (ps_if (pt_cmpR op_eq (pe_callB call_len (by rfl) (T.free "len") (by decide +kernel) (pa_cons (pv 0) pa_nil)) pe_int (nomark _)) (pss_one (ps_ret (pe_tup (pa_cons (pv 0) (pa_cons (pe_glob (v := .ref (He.ga K "ZERO")) rfl T.zero rfl) (pa_cons pe_int pa_nil)))))) pss_nil)
      (pss_cons (ps_asg (pv 0) (pg_tup rfl (pgs_cons (pg_name (i := 1) nd rfl (Or.inl rfl)) (pgs_cons (pg_name (i := 2) nd rfl (Or.inl rfl)) (pgs_cons (pg_name (i := 3) nd rfl (Or.inl rfl)) (pgs_cons (pg_name (i := 4) nd rfl (Or.inl rfl)) pgs_nil))))))
      (pss_one (ps_ret (pe_tup (pa_cons (pe_callG Gratio hr rfl (pa_cons (pe_un un_neg (pv 2)) (pa_cons (pe_op op_mulW pe_int (pv 1)) pa_nil))) (pa_cons (pe_callG Gratio hr rfl (pa_cons (pe_ifExp (pt_val (pv 4)) pe_int (pe_un un_neg pe_int)) (pa_cons (pe_op op_mulW pe_int (pv 1)) pa_nil))) (pa_cons (pe_op op_sub (pe_op op_mulW (pv 2) (pv 2)) (pe_op op_mulW (pe_op op_mulW pe_int (pv 1)) (pv 3))) pa_nil)))))))), ?_⟩
  try simp only [cxK, cxN]
  intro ds d h
  rcases ds with _ | ⟨a, _ | ⟨z, zs⟩⟩ <;> (try exact h.elim)
  change EvS _ _ _ [Sl.dat _, Sl.no, Sl.no, Sl.no, Sl.no] _ _
  obtain ⟨n, rfl, hn, rfl⟩ := h
  cases n with
  | fr x =>
    walk_at "ev"
    refine brT rfl ?_
    walk_at "ev"
    refine ev_con T.rpZero ?_
    walk_at "ev"
    rfl
  | rt p q s up =>
    obtain ⟨h1, s1, s2, s3, d1, d2, d3⟩ := hn
    walk_at "ev"
    refine brF rfl ?_
    walk_at "ev"
    refine ev_ratio ?_
    walk_at "ev"
    refine ⟨_, _, rfl, ⟨by omega, d1⟩, ?_⟩
    walk_at "ev"
    refine ev_ratio ?_
    walk_at "ev"
    cases up with
    | true =>
      refine brT rfl ?_
      walk_at "ev"
      refine ⟨_, _, rfl, ⟨by omega, d2⟩, ?_⟩
      walk_at "ev"
      rfl
    | false =>
      refine brF rfl ?_
      walk_at "ev"
      refine ⟨_, _, rfl, ⟨by omega, d3⟩, ?_⟩
      walk_at "ev"
      rfl
theorem ev_parts_of {B : Bx} {T : Th} {Γ : List Sl} {Q : Sl → Prop} {tl : TA} (h : EvA B T tl Γ fun ss => ∃ n, ss = [.dat (nD n)] ∧ PtC n ∧ Q (.dat (pD (partsOf n)))) : EvT B T (tCall (spP B.K S_parts_of) [] E0 tl) Γ Q :=
  ev_callP fun σ H k o c => h σ H _ o fun vs H' ss o' kp r ⟨x, e, h1, q⟩ => c vs H' ss o' kp r ⟨[nD x], _, e, ⟨x, rfl, h1, rfl⟩, q⟩
end
end Pl
end
section
set_option Elab.async false
set_option linter.all false
set_option maxRecDepth 100000
set_option autoImplicit false
set_option maxHeartbeats 1000000
/-! the program's curves and places -/
namespace Pl
open PySem PySem.Spec PyProof.Rows L2
local macro_rules | `(tactic| walk_at "ev1") => `(tactic| first
  | with_reducible refine ev_var rfl ?_
  | with_reducible refine ev_ref rfl ?_
  | with_reducible refine ev_int ?_
  | with_reducible refine ev_str ?_
  | with_reducible refine ev_bl ?_
  | with_reducible refine ev_ty ?_
  | with_reducible refine ev_op ?_
  | with_reducible refine ev_un ?_
  | with_reducible refine ev_if ?_
  | with_reducible refine ev_tup ?_
  | with_reducible refine ev_lst ?_
  | with_reducible refine ev_cb ?_
  | with_reducible refine ev_andV ?_
  | with_reducible refine ev_orV ?_
  | with_reducible refine ev_notV ?_
  | with_reducible refine ec_val ?_
  | with_reducible refine ec_test ?_
  | with_reducible refine ec_not ?_
  | with_reducible refine ec_and ?_
  | with_reducible refine ec_or ?_
  | with_reducible refine ea_nil ?_
  | with_reducible refine ea_cons ?_
  | with_reducible refine es_seq ?_
  | with_reducible refine es_drop ?_
  | with_reducible refine es_ret ?_
  | with_reducible refine es_if ?_
  | with_reducible refine es_asg ?_
  | with_reducible refine es_asgG ?_
  | with_reducible refine es_par ?_
  | with_reducible refine es_par3 ?_
  | with_reducible refine es_next ?_
  | with_reducible refine eg_name (by (simp only [List.set_cons_succ, List.set_cons_zero]); exact rfl) ?_
  | with_reducible refine par_q (by (simp only [List.set_cons_succ, List.set_cons_zero]); exact rfl) ?_
  | with_reducible refine par_q3 (by (simp only [List.set_cons_succ, List.set_cons_zero]); exact rfl) ?_
  | with_reducible refine asg_dat (by (simp only [List.set_cons_succ, List.set_cons_zero]); exact rfl) ?_
  | with_reducible refine asg_ref (by (simp only [List.set_cons_succ, List.set_cons_zero]); exact rfl) ?_
  | with_reducible refine eg_tup rfl ?_
  | with_reducible refine eg_cons ?_
  | with_reducible refine eg_nil ?_
  | with_reducible refine tup_q2 ?_
  | with_reducible refine tup_q3 ?_
  | with_reducible refine tup_q4 ?_
  | with_reducible refine tup_q5 ?_
  | with_reducible refine tup_q8 ?_
  | with_reducible refine tup_q11 ?_
  | with_reducible refine tup_q0 ?_
  | with_reducible refine tup_q1 ?_
  | with_reducible refine tst ?_
  | with_reducible refine tun ?_
  | with_reducible refine r2_ix rfl ?_
  | with_reducible refine r2_i0 ?_
  | with_reducible refine r2_b0 ?_
  | with_reducible refine r2_eqI ?_
  | with_reducible refine r2_neI ?_
  | with_reducible refine r2_eqS ?_
  | with_reducible refine r2_neS ?_
  | with_reducible refine r2_subB ?_
  | with_reducible refine cb_gcd ?_
  | with_reducible refine cb_abs ?_
  | with_reducible refine cb_int ?_
  | with_reducible refine cb_lenT ?_)
local macro_rules | `(tactic| walk_at "sz") => `(tactic| first
  | assumption
  | with_reducible exact sz_0
  | with_reducible exact sz_1
  | with_reducible exact sz_2
  | with_reducible exact sz_4
  | with_reducible exact sz_m1
  | with_reducible exact Sz.mul (by walk_at "sz") (by walk_at "sz")
  | with_reducible exact Sz.add (by walk_at "sz") (by walk_at "sz")
  | with_reducible exact Sz.sub (by walk_at "sz") (by walk_at "sz")
  | with_reducible exact Sz.neg (by walk_at "sz"))
local macro_rules | `(tactic| walk_at "mulok") => `(tactic| first
  | assumption
  | exact mulok (by walk_at "sz") (by walk_at "sz") (by decide))
local macro_rules | `(tactic| walk_at "ev1") => `(tactic| (refine r2_i (C := CMulW) ?_ ?_; walk_at "mulok"))
local macro_rules | `(tactic| walk_at "ev") => `(tactic| repeat walk_at "ev1")
section
variable {P : Program} {w : World} {K : PySem.W.Frag} {mg : Str → Option Value} {base : Heap}
theorem eqv_q (x y : Qn) : PyData.eqv (qD x) (qD y) = decide (x = y) := by
  show (x.1 == y.1 && (x.2 == y.2 && true)) = _
  rw [Bool.and_true, Bool.eq_iff_iff]
  simp only [Bool.and_eq_true, beq_iff_eq, decide_eq_true_eq]
  exact ⟨fun h => Prod.ext h.1 h.2, fun h => by rw [h]; exact ⟨rfl, rfl⟩⟩
theorem sh_q (x : Qn) : SeqAt.shaped (qD x) = true := rfl
def S_sign_one : List PyData → PyData → Prop
  | [a, b, c], d => ∃ (x y : Qn) (r : Int), a = qD x ∧ b = qD y ∧ c = .int r ∧ Sg1C x y r ∧ d = .int (sign1 x y r)
  | _, _ => False
theorem sgn_mulok (x y : Int) : CMulW (sgn x) (sgn y) ∧ CMulW (sgn x) 0 := by
  have h : ∀ i : Int, sgn i = 1 ∨ sgn i = -1 ∨ sgn i = 0 := fun i => by
    unfold sgn
    split
    · exact .inl rfl
    · split
      · exact .inr (.inl rfl)
      · exact .inr (.inr rfl)
  have z : ∀ i : Int, Sz 2 (sgn i) := fun i => by
    unfold Sz
    rcases h i with e | e | e <;> rw [e] <;> decide
  exact ⟨mulok (z x) (z y) (by decide), mulok (z x) sz_0 (by decide)⟩
theorem dint {a b : Int} (h : a = b) : Sl.dat (.int a) = Sl.dat (.int b) := by rw [h]
theorem scsign_one : FnScope ["a", "b", "r", "first", "second", "gap"] ["a", "b", "r"] (defScope ssign_one) := ⟨rfl, rfl, rfl, by decide +kernel, rfl, by decide +kernel, by decide +kernel⟩
theorem bdsign_one : BindsOf "sign_one" ssign_one ["a", "b", "r"] := fun _ _ _ _ _ _ us hl => match us, hl with | [_, _, _], _ => rfl
theorem oksign_one (T : Tx K mg) (Gsign_of : Gd P w K mg base 1 "sign_of" ["one"] (spP K S_sign_of)) (Gminus : Gd P w K mg base 2 "minus" ["one", "two"] (spP K S_minus)) (Gtimes : Gd P w K mg base 2 "times" ["one", "two"] (spP K S_times)) : Gd P w K mg base 3 "sign_one" ["a", "b", "r"] (spP K S_sign_one) := by
  refine (T.dfn 13 rfl).gdP scsign_one bdsign_one (fun ds d h => match ds, h with | [_, _, _], _ => rfl) (by decide) ?_
  intro f cdv A outer s H E hr
  have nd := scsign_one.nd
  refine ⟨_, (pss_cons (ps_par (i := 3) (j := 4) (by rfl) nd rfl rfl (by decide) rfl rfl (pa_cons (pe_callG Gsign_of (hr.mono (by decide)) rfl (pa_cons (pv 0) pa_nil)) (pa_cons (pe_ifExp (pt_cmpR op_ne (pv 2) pe_int (nomark _)) (pe_callG Gsign_of (hr.mono (by decide)) rfl (pa_cons (pv 1) pa_nil)) pe_int) pa_nil)) (by rfl))
      (pss_cons (ps_if (pt_cmpR op_ge (pe_op op_mulW (pv 3) (pv 4)) pe_int (nomark _)) (pss_one (ps_ret (pe_ifExp (pt_cmpR op_ne (pv 3) pe_int (nomark _)) (pv 3) (pv 4)))) pss_nil)
      (pss_cons (ps_set (i := 5) nd rfl (Or.inl rfl) (pe_callG Gsign_of (hr.mono (by decide)) rfl (pa_cons (pe_callG Gminus hr rfl (pa_cons (pe_callG Gtimes hr rfl (pa_cons (pv 0) (pa_cons (pv 0) pa_nil))) (pa_cons (pe_callG Gtimes hr rfl (pa_cons (pe_callG Gtimes hr rfl (pa_cons (pv 1) (pa_cons (pv 1) pa_nil))) (pa_cons (pe_tup (pa_cons (pv 2) (pa_cons pe_int pa_nil))) pa_nil))) pa_nil))) pa_nil)))
      (pss_one (ps_ret (pe_ifExp (pt_cmpR op_gt (pv 5) pe_int (nomark _)) (pv 3) (pe_ifExp (pt_cmpR op_lt (pv 5) pe_int (nomark _)) (pv 4) pe_int))))))), ?_⟩
  try simp only [cxK, cxN]
  intro ds d h
  rcases ds with _ | ⟨a, _ | ⟨b, _ | ⟨c, _ | ⟨z, zs⟩⟩⟩⟩ <;> (try exact h.elim)
  change EvS _ _ _ [Sl.dat _, Sl.dat _, Sl.dat _, Sl.no, Sl.no, Sl.no] _ _
  obtain ⟨x, y, r, rfl, rfl, rfl, ⟨c1, c2, c3, c4⟩, rfl⟩ := h
  walk_at "ev"
  refine ev_sign_of ?_
  walk_at "ev"
  refine ⟨_, rfl, ?_⟩
  walk_at "ev"
  by_cases hr0 : r = 0
  · refine brF (by rw [decide_eq_true hr0]; rfl) ?_
    walk_at "ev"
    have hm := (sgn_mulok x.1 y.1).2
    walk_at "ev"
    refine brT (decide_eq_true (by rw [Int.mul_zero]; exact Int.le_refl 0)) ?_
    have es : sign1 x y r = if sgn x.1 ≠ 0 then sgn x.1 else 0 := by
      have e0 : (if r ≠ 0 then sgn y.1 else 0) = 0 := if_neg (fun z => z hr0)
      unfold sign1
      rw [e0, Int.mul_zero, if_pos (Int.le_refl 0)]
    rw [es]
    walk_at "ev"
    refine ⟨fun hb => ?_, fun hb => ?_⟩
    · walk_at "ev"
      refine dint ?_
      rw [if_pos (by simpa using hb)]
    · walk_at "ev"
      refine dint ?_
      rw [if_neg (by simpa using hb)]
  · refine brT (by rw [decide_eq_false hr0]; rfl) ?_
    refine ev_sign_of ?_
    walk_at "ev"
    refine ⟨_, rfl, ?_⟩
    walk_at "ev"
    have hm := (sgn_mulok x.1 y.1).1
    walk_at "ev"
    refine ⟨fun hb => ?_, fun hb => ?_⟩
    · have hb := of_decide_eq_true hb
      have es : sign1 x y r = if sgn x.1 ≠ 0 then sgn x.1 else sgn y.1 := by
        unfold sign1
        rw [if_pos hr0, if_pos hb]
      rw [es]
      walk_at "ev"
      refine ⟨fun hb => ?_, fun hb => ?_⟩
      · walk_at "ev"
        refine dint ?_
        rw [if_pos (by simpa using hb)]
      · walk_at "ev"
        refine dint ?_
        rw [if_neg (by simpa using hb)]
    · have hb := of_decide_eq_false hb
      have es : sign1 x y r = if 0 < sgn (qsub (qmul x x) (qmul (qmul y y) (r, 1))).1 then sgn x.1 else if sgn (qsub (qmul x x) (qmul (qmul y y) (r, 1))).1 < 0 then sgn y.1 else 0 := by
        unfold sign1
        rw [if_pos hr0, if_neg hb]
      rw [es]
      walk_at "ev"
      refine ev_sign_of ?_
      walk_at "ev"
      refine ev_minus ?_
      walk_at "ev"
      refine ev_times ?_
      walk_at "ev"
      refine ⟨x, x, rfl, c1, ?_⟩
      walk_at "ev"
      refine ev_times ?_
      walk_at "ev"
      refine ev_times ?_
      walk_at "ev"
      refine ⟨y, y, rfl, c2, ?_⟩
      walk_at "ev"
      refine ⟨_, (r, 1), rfl, c3, ?_⟩
      walk_at "ev"
      refine ⟨_, _, rfl, c4, ?_⟩
      walk_at "ev"
      refine ⟨_, rfl, ?_⟩
      walk_at "ev"
      refine ⟨fun hb => ?_, fun hb => ?_⟩
      · walk_at "ev"
        refine dint ?_
        rw [if_pos (of_decide_eq_true hb)]
      · walk_at "ev"
        refine ⟨fun hb2 => ?_, fun hb2 => ?_⟩
        · walk_at "ev"
          refine dint ?_
          rw [if_neg (of_decide_eq_false hb), if_pos (of_decide_eq_true hb2)]
        · walk_at "ev"
          refine dint ?_
          rw [if_neg (of_decide_eq_false hb), if_neg (of_decide_eq_false hb2)]
theorem ev_sign_one {B : Bx} {T : Th} {Γ : List Sl} {Q : Sl → Prop} {tl : TA} (h : EvA B T tl Γ fun ss => ∃ (x y : Qn) (r : Int), ss = [.dat (qD x), .dat (qD y), .dat (.int r)] ∧ Sg1C x y r ∧ Q (.dat (.int (sign1 x y r)))) : EvT B T (tCall (spP B.K S_sign_one) [] E0 tl) Γ Q :=
  ev_callP fun σ H k o c => h σ H _ o fun vs H' ss o' kp rr ⟨x, y, r, e, h1, q⟩ => c vs H' ss o' kp rr ⟨[qD x, qD y, .int r], _, e, ⟨x, y, r, rfl, rfl, rfl, h1, rfl⟩, q⟩
/-! one field -/
def S_do_lie_in_one : List PyData → PyData → Prop
  | [a, b], d => ∃ n o, a = nD n ∧ b = nD o ∧ PtC n ∧ PtC o ∧ FieldC n o ∧ d = .bool true
  | _, _ => False
theorem scdo_lie_in_one : FnScope ["number", "other"] ["number", "other"] (defScope sdo_lie_in_one) := ⟨rfl, rfl, rfl, by decide +kernel, rfl, by decide +kernel, by decide +kernel⟩
theorem bddo_lie_in_one : BindsOf "do_lie_in_one" sdo_lie_in_one ["number", "other"] := fun _ _ _ _ _ _ us hl => match us, hl with | [_, _], _ => rfl
theorem okdo_lie_in_one (T : Tx K mg) (Gis_square : Gd P w K mg base 1 "is_square" ["number"] (spP K S_is_square)) (Gparts_of : Gd P w K mg base 2 "parts_of" ["number"] (spP K S_parts_of)) : Gd P w K mg base 3 "do_lie_in_one" ["number", "other"] (spP K S_do_lie_in_one) := by
  refine (T.dfn 14 rfl).gdP scdo_lie_in_one bddo_lie_in_one (fun ds d h => match ds, h with | [_, _], _ => rfl) (by decide) ?_
  intro f cdv A outer s H E hr
  have nd := scdo_lie_in_one.nd
  refine ⟨_, (pss_cons (ps_if (PW.pt (pw_or (pt_cmpR op_eq (pe_callB call_len (by rfl) (T.free "len") (by decide +kernel) (pa_cons (pv 0) pa_nil)) pe_int (nomark _)) (pw_or1 (pt_cmpR op_eq (pe_callB call_len (by rfl) (T.free "len") (by decide +kernel) (pa_cons (pv 1) pa_nil)) pe_int (nomark _))))) (pss_one (ps_ret pe_bl)) pss_nil)
      (pss_one (ps_ret (pe_callG Gis_square (hr.mono (by decide)) rfl (pa_cons (pe_op op_mulW (pe_ix ix_tup (pe_callG Gparts_of hr rfl (pa_cons (pv 0) pa_nil)) pe_int (fun _ _ => rfl)) (pe_ix ix_tup (pe_callG Gparts_of hr rfl (pa_cons (pv 1) pa_nil)) pe_int (fun _ _ => rfl))) pa_nil))))), ?_⟩
  try simp only [cxK, cxN]
  intro ds d h
  rcases ds with _ | ⟨a, _ | ⟨b, _ | ⟨z, zs⟩⟩⟩ <;> (try exact h.elim)
  change EvS _ _ _ [Sl.dat _, Sl.dat _] _ _
  obtain ⟨n, o, rfl, rfl, h1, h2, h3, rfl⟩ := h
  cases n with
  | fr x =>
    walk_at "ev"
    refine brT' rfl ?_
    refine brT rfl ?_
    walk_at "ev"
    rfl
  | rt p q s up =>
    walk_at "ev"
    refine brF' rfl ?_
    cases o with
    | fr x =>
      walk_at "ev"
      refine brT rfl ?_
      walk_at "ev"
      rfl
    | rt p' q' s' up' =>
      walk_at "ev"
      refine brF rfl ?_
      obtain ⟨h4, h5, h6, h7⟩ := h3
      obtain ⟨_, z1, z2, z3, _⟩ := id h1
      obtain ⟨_, y1, y2, y3, _⟩ := id h2
      have e1 : Sz 200000 (disc p q s) := ((z2.mul z2).sub ((sz_4.mul z1).mul z3)).mono (by decide)
      have e2 : Sz 200000 (disc p' q' s') := ((y2.mul y2).sub ((sz_4.mul y1).mul y3)).mono (by decide)
      walk_at "ev"
      refine ev_is_square ?_
      walk_at "ev"
      refine ev_parts_of ?_
      walk_at "ev"
      refine ⟨_, rfl, by assumption, ?_⟩
      walk_at "ev"
      refine ev_parts_of ?_
      walk_at "ev"
      refine ⟨_, rfl, by assumption, ?_⟩
      walk_at "ev"
      refine ⟨_, rfl, ⟨Int.le_of_lt (Int.mul_pos h4 h5), h6⟩, ?_⟩
      show Sl.dat (.bool (isSq (disc p q s * disc p' q' s'))) = _
      rw [h7]
abbrev fD (z : Five) : PyData := .tuple [qD z.1, qD z.2.1, qD z.2.2.1, qD z.2.2.2.1, .int z.2.2.2.2]
def S_in_one : List PyData → PyData → Prop
  | [a, b], d => ∃ n o, a = nD n ∧ b = nD o ∧ InC n o ∧ d = fD (inOne n o)
  | _, _ => False
theorem scin_one : FnScope ["number", "other", "a", "b", "r", "c", "d", "s", "by"] ["number", "other"] (defScope sin_one) := ⟨rfl, rfl, rfl, by decide +kernel, rfl, by decide +kernel, by decide +kernel⟩
theorem bdin_one : BindsOf "in_one" sin_one ["number", "other"] := fun _ _ _ _ _ _ us hl => match us, hl with | [_, _], _ => rfl
theorem okin_one (T : Tx K mg) (Gparts_of : Gd P w K mg base 2 "parts_of" ["number"] (spP K S_parts_of)) (Gratio : Gd P w K mg base 1 "ratio" ["top", "low"] (spP K S_ratio)) (Gtimes : Gd P w K mg base 2 "times" ["one", "two"] (spP K S_times)) : Gd P w K mg base 3 "in_one" ["number", "other"] (spP K S_in_one) := by
  refine (T.dfn 15 rfl).gdP scin_one bdin_one (fun ds d h => match ds, h with | [_, _], _ => rfl) (by decide) ?_
  intro f cdv A outer s H E hr
  have nd := scin_one.nd
  refine ⟨_, (pss_cons (ps_asg (pe_tup (pa_cons (pe_callG Gparts_of hr rfl (pa_cons (pv 0) pa_nil)) (pa_cons (pe_callG Gparts_of hr rfl (pa_cons (pv 1) pa_nil)) pa_nil))) (pg_tup rfl (pgs_cons (pg_tup rfl (pgs_cons (pg_name (i := 2) nd rfl (Or.inl rfl)) (pgs_cons (pg_name (i := 3) nd rfl (Or.inl rfl)) (pgs_cons (pg_name (i := 4) nd rfl (Or.inl rfl)) pgs_nil)))) (pgs_cons (pg_tup rfl (pgs_cons (pg_name (i := 5) nd rfl (Or.inl rfl)) (pgs_cons (pg_name (i := 6) nd rfl (Or.inl rfl)) (pgs_cons (pg_name (i := 7) nd rfl (Or.inl rfl)) pgs_nil)))) pgs_nil))))
      (pss_cons (ps_if (pt_cmpR (op_eqD hr.units) (pv 3) (pe_glob (v := .ref (He.ga K "ZERO")) rfl T.zero rfl) (nomark _)) (pss_one (ps_ret (pe_tup (pa_cons (pv 2) (pa_cons (pe_glob (v := .ref (He.ga K "ZERO")) rfl T.zero rfl) (pa_cons (pv 5) (pa_cons (pv 6) (pa_cons (pv 7) pa_nil)))))))) pss_nil)
      (pss_cons (ps_set (i := 8) nd rfl (Or.inl rfl) (pe_ifExp (pt_cmpR (op_neD hr.units) (pv 6) (pe_glob (v := .ref (He.ga K "ZERO")) rfl T.zero rfl) (nomark _)) (pe_callG Gratio (hr.mono (by decide)) rfl (pa_cons (pe_callBfun cr_isq rfl T.isqrt (pa_cons (pe_op op_mulW (pv 4) (pv 7)) pa_nil)) (pa_cons (pv 4) pa_nil))) (pe_glob (v := .ref (He.ga K "ONE")) rfl T.one rfl)))
      (pss_one (ps_ret (pe_tup (pa_cons (pv 2) (pa_cons (pv 3) (pa_cons (pv 5) (pa_cons (pe_callG Gtimes hr rfl (pa_cons (pv 6) (pa_cons (pv 8) pa_nil))) (pa_cons (pv 4) pa_nil))))))))))), ?_⟩
  try simp only [cxK, cxN]
  intro ds d h
  rcases ds with _ | ⟨a, _ | ⟨b, _ | ⟨z, zs⟩⟩⟩ <;> (try exact h.elim)
  change EvS _ _ _ [Sl.dat _, Sl.dat _, Sl.no, Sl.no, Sl.no, Sl.no, Sl.no, Sl.no, Sl.no] _ _
  obtain ⟨n, o, rfl, rfl, ⟨h1, h2, h3, h4⟩, rfl⟩ := h
  walk_at "ev"
  refine ev_parts_of ?_
  walk_at "ev"
  refine ⟨_, rfl, h1, ?_⟩
  walk_at "ev"
  refine ev_parts_of ?_
  walk_at "ev"
  refine ⟨_, rfl, h2, ?_⟩
  walk_at "ev"
  refine ev_con T.rpZero ?_
  refine r2_eqD (sh_q _) (sh_q (0, 1)) ?_
  walk_at "ev"
  by_cases hz : (partsOf n).2.1 = (0, 1)
  · refine brT (by rw [eqv_q _ (0, 1), decide_eq_true hz]) ?_
    walk_at "ev"
    refine ev_con T.rpZero ?_
    walk_at "ev"
    unfold inOne
    rw [if_pos hz]
  · refine brF (by rw [eqv_q _ (0, 1), decide_eq_false hz]) ?_
    have hrt : ∃ p q s up, n = .rt p q s up := by
      cases n with
      | fr x => exact absurd rfl hz
      | rt p q s up => exact ⟨p, q, s, up, rfl⟩
    obtain ⟨p, q, s, up, rfl⟩ := hrt
    walk_at "ev"
    refine ev_con T.rpZero ?_
    refine r2_neD (sh_q _) (sh_q (0, 1)) ?_
    walk_at "ev"
    cases o with
    | fr x =>
      refine brF (by rw [eqv_q _ (0, 1)]; rfl) ?_
      refine ev_con T.rpOne ?_
      walk_at "ev"
      refine ev_times ?_
      walk_at "ev"
      refine ⟨(0, 1), (1, 1), rfl, ⟨by decide, by decide, mulok sz_0 sz_1 (by decide), mulok sz_1 sz_1 (by decide), .inl (sz_1.mono (by decide))⟩, ?_⟩
      walk_at "ev"
      unfold inOne
      rw [if_neg hz]
      rfl
    | rt p' q' s' up' =>
      obtain ⟨g1, g2, g3, g4⟩ := h3
      obtain ⟨d1, d2⟩ := h4
      obtain ⟨_, z1, z2, z3, _⟩ := h1
      obtain ⟨_, y1, y2, y3, _⟩ := h2
      have e1 : Sz 200000 (disc p q s) := ((z2.mul z2).sub ((sz_4.mul z1).mul z3)).mono (by decide)
      have e2 : Sz 200000 (disc p' q' s') := ((y2.mul y2).sub ((sz_4.mul y1).mul y3)).mono (by decide)
      have hne : (partsOf (.rt p' q' s' up')).2.1 ≠ (0, 1) := d2.p2 |> fun _ => by
        intro z
        have hv := ratio_vb (t := if up' = true then 1 else -1) (l := 2 * p') (by omega)
        have z' : ratio (if up' = true then 1 else -1) (2 * p') = (0, 1) := z
        rw [z'] at hv
        have := hv.eq
        simp at this
        cases up' <;> simp at this
      refine brT (by rw [eqv_q _ (0, 1), decide_eq_false hne]; rfl) ?_
      refine ev_ratio ?_
      walk_at "ev"
      refine cb_isq (Int.le_of_lt (Int.mul_pos g1 g2)) g3 ?_
      walk_at "ev"
      refine ⟨_, _, rfl, ⟨g1, d1⟩, ?_⟩
      walk_at "ev"
      refine ev_times ?_
      walk_at "ev"
      refine ⟨_, _, rfl, d2, ?_⟩
      walk_at "ev"
      unfold inOne
      rw [if_neg hz, if_pos hne]
      rfl
theorem ev_in_one {B : Bx} {T : Th} {Γ : List Sl} {Q : Sl → Prop} {tl : TA} (h : EvA B T tl Γ fun ss => ∃ n o, ss = [.dat (nD n), .dat (nD o)] ∧ InC n o ∧ Q (.dat (fD (inOne n o)))) : EvT B T (tCall (spP B.K S_in_one) [] E0 tl) Γ Q :=
  ev_callP fun σ H k o c => h σ H _ o fun vs H' ss o' kp rr ⟨x, y, e, h1, q⟩ => c vs H' ss o' kp rr ⟨[nD x, nD y], _, e, ⟨x, y, rfl, rfl, h1, rfl⟩, q⟩
/-! places -/
def PlOk (n o : Num) : Prop := NumOk 6000 n ∧ NumOk 6000 o ∧ PtC n ∧ PtC o ∧ FieldC n o
abbrev plD (n o : Num) : PyData := .tuple [nD n, nD o]
def S_is_placed : List PyData → PyData → Prop
  | [a], d => ∃ n o, a = plD n o ∧ PlOk n o ∧ d = .bool true
  | _, _ => False
theorem scis_placed : FnScope ["value", "each"] ["value"] (defScope sis_placed) := ⟨rfl, rfl, rfl, by decide +kernel, rfl, by decide +kernel, by decide +kernel⟩
theorem bdis_placed : BindsOf "is_placed" sis_placed ["value"] := fun _ _ _ _ _ _ us hl => match us, hl with | [_], _ => rfl
theorem okis_placed (T : Tx K mg) (Gdo_lie_in_one : Gd P w K mg base 3 "do_lie_in_one" ["number", "other"] (spP K S_do_lie_in_one)) (Gis_numbered : Gd P w K mg base 4 "is_numbered" ["value"] (spP K S_is_numbered)) : Gd P w K mg base 5 "is_placed" ["value"] (spP K S_is_placed) := by
  refine (T.dfn 16 rfl).gdP scis_placed bdis_placed (fun ds d h => match ds, h with | [_], _ => rfl) (by decide) ?_
  intro f cdv A outer s H E hr
  have nd := scis_placed.nd
  refine ⟨_, (pss_cons (ps_if (PW.pt (pw_or (pt_not (pt_val (pe_callB call_isi (by rfl) (T.free "isinstance") (by decide +kernel) (pa_cons (pv 0) (pa_cons (pe_bltn (v := .ty "tuple") (by rfl) (T.free "tuple") (by decide +kernel) rfl) pa_nil))))) (pw_or (pt_cmpR op_ne (pe_callB call_len (by rfl) (T.free "len") (by decide +kernel) (pa_cons (pv 0) pa_nil)) pe_int (nomark _)) (pw_or1 (pt_not (pt_val (pe_callB (cr_all rfl) (by rfl) (T.free "all") (by decide +kernel) (pa_cons (pe_lc (own := [("each", 1)]) (g := gName 1) rfl nd (pi_tup (pv 0)) (blkOk_by (own := [("each", 1)]) (N := ["value", "each"]) (sc := defScope sis_placed) (by decide +kernel)) (fun _ _ _ _ _ => pg_name (i := 1) nd rfl (Or.inl rfl)) (fun _ _ _ _ _ => pts_nil) (fun _ _ _ _ _ => (pe_callG Gis_numbered hr rfl (pa_cons (pv 1) pa_nil)))) pa_nil)))))))) (pss_one (ps_ret pe_bl)) pss_nil)
      (pss_one (ps_ret (pe_callG Gdo_lie_in_one (hr.mono (by decide)) rfl (pa_cons (pe_ix ix_tup (pv 0) pe_int (fun _ _ => rfl)) (pa_cons (pe_ix ix_tup (pv 0) pe_int (fun _ _ => rfl)) pa_nil)))))), ?_⟩
  try simp only [cxK, cxN]
  intro ds d h
  rcases ds with _ | ⟨a, _ | ⟨z, zs⟩⟩ <;> (try exact h.elim)
  change EvS _ _ _ [Sl.dat _, Sl.no] _ _
  obtain ⟨n, o, rfl, ⟨h1, h2, h3, h4, h5⟩, rfl⟩ := h
  walk_at "ev"
  refine cb_isi (isA_tt _) ?_
  walk_at "ev"
  refine brF' rfl ?_
  walk_at "ev"
  refine brF' rfl ?_
  walk_at "ev"
  refine ev_lcT (p := fun _ => true) (f := fun _ => .bool true) ?_
  walk_at "ev"
  refine ⟨_, rfl, by simp, fun d _ q => ec_yes rfl, fun d hd _ q => ?_, ?_⟩
  · refine ev_callP ?_
    walk_at "ev"
    simp only [List.mem_cons, List.not_mem_nil, or_false] at hd
    rcases hd with rfl | rfl
    · exact ⟨[nD n], _, rfl, ⟨n, rfl, h1, rfl⟩, rfl⟩
    · exact ⟨[nD o], _, rfl, ⟨o, rfl, h2, rfl⟩, rfl⟩
  · walk_at "ev"
    refine (cb_all (bs := [true, true]) ?_ : CBk _ _ _ [.new ([PyData.bool true, PyData.bool true])] _)
    walk_at "ev"
    refine brF rfl ?_
    walk_at "ev"
    refine ev_callP ?_
    walk_at "ev"
    exact ⟨[nD n, nD o], _, rfl, ⟨n, o, rfl, rfl, h3, h4, h5, rfl⟩, rfl⟩
def S_is_place : List PyData → PyData → Prop := S_is_placed
theorem scis_place : FnScope ["value"] ["value"] (defScope sis_place) := ⟨rfl, rfl, rfl, by decide +kernel, rfl, by decide +kernel, by decide +kernel⟩
theorem bdis_place : BindsOf "is_place" sis_place ["value"] := fun _ _ _ _ _ _ us hl => match us, hl with | [_], _ => rfl
theorem okis_place (T : Tx K mg) (Gis_placed : Gd P w K mg base 5 "is_placed" ["value"] (spP K S_is_placed)) : Gd P w K mg base 6 "is_place" ["value"] (spP K S_is_place) := by
  refine (T.dfn 22 rfl).gdP scis_place bdis_place (fun ds d h => match ds, h with | [_], _ => rfl) (by decide) ?_
  intro f cdv A outer s H E hr
  have nd := scis_place.nd
  refine ⟨_, (pss_one (ps_ret (pe_callG Gis_placed hr rfl (pa_cons (pv 0) pa_nil)))), ?_⟩
  try simp only [cxK, cxN]
  intro ds d h
  rcases ds with _ | ⟨a, _ | ⟨z, zs⟩⟩ <;> (try exact h.elim)
  change EvS _ _ _ [Sl.dat _] _ _
  obtain ⟨n, o, rfl, h1, rfl⟩ := h
  walk_at "ev"
  refine ev_callP ?_
  walk_at "ev"
  exact ⟨[plD n o], _, rfl, ⟨n, o, rfl, h1, rfl⟩, rfl⟩
def S_check_place : List PyData → PyData → Prop
  | [a], d => ∃ n o, a = plD n o ∧ PlOk n o ∧ d = .none
  | _, _ => False
theorem sccheck_place : FnScope ["value"] ["value"] (defScope scheck_place) := ⟨rfl, rfl, rfl, by decide +kernel, rfl, by decide +kernel, by decide +kernel⟩
theorem bdcheck_place : BindsOf "check_place" scheck_place ["value"] := fun _ _ _ _ _ _ us hl => match us, hl with | [_], _ => rfl
theorem okcheck_place (T : Tx K mg) (Gis_placed : Gd P w K mg base 5 "is_placed" ["value"] (spP K S_is_placed)) : Gd P w K mg base 6 "check_place" ["value"] (spP K S_check_place) := by
  refine (T.dfn 20 rfl).gdP sccheck_place bdcheck_place (fun ds d h => match ds, h with | [_], _ => rfl) (by decide) ?_
  intro f cdv A outer s H E hr
  have nd := sccheck_place.nd
  refine ⟨_, (pss_one (ps_if (pt_not (pt_val (pe_callG Gis_placed hr rfl (pa_cons (pv 0) pa_nil)))) (pss_one (ps_never)) pss_nil)), ?_⟩
  try simp only [cxK, cxN]
  intro ds d h
  rcases ds with _ | ⟨a, _ | ⟨z, zs⟩⟩ <;> (try exact h.elim)
  change EvS _ _ _ [Sl.dat _] _ _
  obtain ⟨n, o, rfl, h1, rfl⟩ := h
  walk_at "ev"
  refine ev_callP ?_
  walk_at "ev"
  refine ⟨[plD n o], _, rfl, ⟨n, o, rfl, h1, rfl⟩, ?_⟩
  walk_at "ev"
  refine brF rfl ?_
  walk_at "ev"
  rfl
/-! curves -/
abbrev cD : Cv → PyData
  | .line a b c => .tuple [.str "line", qD a, qD b, qD c]
  | .circ x y q => .tuple [.str "circle", qD x, qD y, qD q]
def S_is_curved : List PyData → PyData → Prop
  | [a], d => ∃ c, a = cD c ∧ CvOk c ∧ d = .bool true
  | _, _ => False
theorem scis_curved : FnScope ["value", "each"] ["value"] (defScope sis_curved) := ⟨rfl, rfl, rfl, by decide +kernel, rfl, by decide +kernel, by decide +kernel⟩
theorem bdis_curved : BindsOf "is_curved" sis_curved ["value"] := fun _ _ _ _ _ _ us hl => match us, hl with | [_], _ => rfl
theorem okis_curved (T : Tx K mg) (Gis_ratio : Gd P w K mg base 3 "is_ratio" ["value"] (spP K S_is_ratio)) : Gd P w K mg base 4 "is_curved" ["value"] (spP K S_is_curved) := by
  refine (T.dfn 17 rfl).gdP scis_curved bdis_curved (fun ds d h => match ds, h with | [_], _ => rfl) (by decide) ?_
  intro f cdv A outer s H E hr
  have nd := scis_curved.nd
  refine ⟨_, (pss_cons (ps_if (PW.pt (pw_or (pt_not (pt_val (pe_callB call_isi (by rfl) (T.free "isinstance") (by decide +kernel) (pa_cons (pv 0) (pa_cons (pe_bltn (v := .ty "tuple") (by rfl) (T.free "tuple") (by decide +kernel) rfl) pa_nil))))) (pw_or (pt_cmpR op_ne (pe_callB call_len (by rfl) (T.free "len") (by decide +kernel) (pa_cons (pv 0) pa_nil)) pe_int (nomark _)) (pw_or1 (pt_not (pt_val (pe_callB call_isi (by rfl) (T.free "isinstance") (by decide +kernel) (pa_cons (pe_ix ix_tup (pv 0) pe_int (fun _ _ => rfl)) (pa_cons (pe_bltn (v := .ty "str") (by rfl) (T.free "str") (by decide +kernel) rfl) pa_nil))))))))) (pss_one (ps_ret pe_bl)) pss_nil)
      (pss_cons (ps_if (pt_not (pt_val (pe_callB (cr_all rfl) (by rfl) (T.free "all") (by decide +kernel) (pa_cons (pe_lc (own := [("each", 1)]) (g := gName 1) rfl nd (pi_tup (pe_slice sl_tup (pv 0) (po_some pe_int) po_none)) (blkOk_by (own := [("each", 1)]) (N := ["value", "each"]) (sc := defScope sis_curved) (by decide +kernel)) (fun _ _ _ _ _ => pg_name (i := 1) nd rfl (Or.inl rfl)) (fun _ _ _ _ _ => pts_nil) (fun _ _ _ _ _ => (pe_callG Gis_ratio hr rfl (pa_cons (pv 1) pa_nil)))) pa_nil)))) (pss_one (ps_ret pe_bl)) pss_nil)
      (pss_cons (ps_if (pt_cmpR op_eq (pe_ix ix_tup (pv 0) pe_int (fun _ _ => rfl)) pe_str (nomark _)) (pss_one (ps_ret (pe_or (pe_cmpR (op_neD hr.units) (pe_ix ix_tup (pv 0) pe_int (fun _ _ => rfl)) (pe_glob (v := .ref (He.ga K "ZERO")) rfl T.zero rfl) (nomark _)) (pe_one (pe_cmpR (op_neD hr.units) (pe_ix ix_tup (pv 0) pe_int (fun _ _ => rfl)) (pe_glob (v := .ref (He.ga K "ZERO")) rfl T.zero rfl) (nomark _)))))) pss_nil)
      (pss_one (ps_ret (pe_and (pe_cmpR op_eq (pe_ix ix_tup (pv 0) pe_int (fun _ _ => rfl)) pe_str (nomark _)) (pe_one (pe_cmpR op_gt (pe_ix ix_tup (pe_ix ix_tup (pv 0) pe_int (fun _ _ => rfl)) pe_int (fun _ _ => rfl)) pe_int (nomark _))))))))), ?_⟩
  try simp only [cxK, cxN]
  intro ds d h
  rcases ds with _ | ⟨a, _ | ⟨z, zs⟩⟩ <;> (try exact h.elim)
  change EvS _ _ _ [Sl.dat _, Sl.no] _ _
  obtain ⟨c, rfl, hc, rfl⟩ := h
  have key : ∀ (t : Str) (x y z : Qn), Red x → Red y → Red z → ∀ q, q ∈ [qD x, qD y, qD z] → ∃ u : Qn, q = qD u ∧ Red u := fun t x y z h1 h2 h3 q hq => by
    simp only [List.mem_cons, List.not_mem_nil, or_false] at hq
    rcases hq with rfl | rfl | rfl
    · exact ⟨_, rfl, h1⟩
    · exact ⟨_, rfl, h2⟩
    · exact ⟨_, rfl, h3⟩
  cases c with
  | line x y z =>
    obtain ⟨h1, h2, h3, h4⟩ := hc
    walk_at "ev"
    refine cb_isi (isA_tt _) ?_
    walk_at "ev"
    refine brF' rfl ?_
    walk_at "ev"
    refine brF' rfl ?_
    walk_at "ev"
    refine cb_isi (isA_ss _) ?_
    walk_at "ev"
    refine brF rfl ?_
    walk_at "ev"
    refine ev_lcT (p := fun _ => true) (f := fun _ => .bool true) ?_
    refine ev_slT (n := 4) (sl_int 1) sl_no (by decide) ?_
    walk_at "ev"
    refine ⟨_, [qD x, qD y, qD z], rfl, rfl, rfl, ?_⟩
    refine ⟨_, rfl, by simp, fun d _ q => ec_yes rfl, fun d hd _ q => ?_, ?_⟩
    · refine ev_callP ?_
      walk_at "ev"
      obtain ⟨u, rfl, hu⟩ := key "" x y z h1 h2 h3 d hd
      exact ⟨[qD u], _, rfl, .inl ⟨u, rfl, hu, rfl⟩, rfl⟩
    · walk_at "ev"
      refine (cb_all (bs := [true, true, true]) ?_ : CBk _ _ _ [.new ([PyData.bool true, PyData.bool true, PyData.bool true])] _)
      walk_at "ev"
      refine brF rfl ?_
      walk_at "ev"
      refine brT rfl ?_
      walk_at "ev"
      refine ev_con T.rpZero ?_
      refine r2_neD (sh_q _) (sh_q (0, 1)) ?_
      walk_at "ev"
      rcases h4 with h4 | h4
      · refine brT' (by rw [eqv_q _ (0, 1), decide_eq_false h4]; rfl) rfl
      · by_cases h5 : x = (0, 1)
        · refine brF' (by rw [eqv_q _ (0, 1), decide_eq_true h5]; rfl) ?_
          walk_at "ev"
          refine ev_con T.rpZero ?_
          refine r2_neD (sh_q _) (sh_q (0, 1)) ?_
          rw [eqv_q _ (0, 1), decide_eq_false h4]
          rfl
        · refine brT' (by rw [eqv_q _ (0, 1), decide_eq_false h5]; rfl) rfl
  | circ x y z =>
    obtain ⟨h1, h2, h3, h4⟩ := hc
    walk_at "ev"
    refine cb_isi (isA_tt _) ?_
    walk_at "ev"
    refine brF' rfl ?_
    walk_at "ev"
    refine brF' rfl ?_
    walk_at "ev"
    refine cb_isi (isA_ss _) ?_
    walk_at "ev"
    refine brF rfl ?_
    walk_at "ev"
    refine ev_lcT (p := fun _ => true) (f := fun _ => .bool true) ?_
    refine ev_slT (n := 4) (sl_int 1) sl_no (by decide) ?_
    walk_at "ev"
    refine ⟨_, [qD x, qD y, qD z], rfl, rfl, rfl, ?_⟩
    refine ⟨_, rfl, by simp, fun d _ q => ec_yes rfl, fun d hd _ q => ?_, ?_⟩
    · refine ev_callP ?_
      walk_at "ev"
      obtain ⟨u, rfl, hu⟩ := key "" x y z h1 h2 h3 d hd
      exact ⟨[qD u], _, rfl, .inl ⟨u, rfl, hu, rfl⟩, rfl⟩
    · walk_at "ev"
      refine (cb_all (bs := [true, true, true]) ?_ : CBk _ _ _ [.new ([PyData.bool true, PyData.bool true, PyData.bool true])] _)
      walk_at "ev"
      refine brF rfl ?_
      walk_at "ev"
      refine brF rfl ?_
      walk_at "ev"
      refine brT rfl ?_
      walk_at "ev"
      rw [decide_eq_true h4]
def S_check_curve : List PyData → PyData → Prop
  | [a], d => ∃ c, a = cD c ∧ CvOk c ∧ d = .none
  | _, _ => False
theorem sccheck_curve : FnScope ["value"] ["value"] (defScope scheck_curve) := ⟨rfl, rfl, rfl, by decide +kernel, rfl, by decide +kernel, by decide +kernel⟩
theorem bdcheck_curve : BindsOf "check_curve" scheck_curve ["value"] := fun _ _ _ _ _ _ us hl => match us, hl with | [_], _ => rfl
theorem okcheck_curve (T : Tx K mg) (Gis_curved : Gd P w K mg base 4 "is_curved" ["value"] (spP K S_is_curved)) : Gd P w K mg base 5 "check_curve" ["value"] (spP K S_check_curve) := by
  refine (T.dfn 21 rfl).gdP sccheck_curve bdcheck_curve (fun ds d h => match ds, h with | [_], _ => rfl) (by decide) ?_
  intro f cdv A outer s H E hr
  have nd := sccheck_curve.nd
  refine ⟨_, (pss_one (ps_if (pt_not (pt_val (pe_callG Gis_curved hr rfl (pa_cons (pv 0) pa_nil)))) (pss_one (ps_never)) pss_nil)), ?_⟩
  try simp only [cxK, cxN]
  intro ds d h
  rcases ds with _ | ⟨a, _ | ⟨z, zs⟩⟩ <;> (try exact h.elim)
  change EvS _ _ _ [Sl.dat _] _ _
  obtain ⟨c, rfl, h1, rfl⟩ := h
  walk_at "ev"
  refine ev_callP ?_
  walk_at "ev"
  refine ⟨[cD c], _, rfl, ⟨c, rfl, h1, rfl⟩, ?_⟩
  walk_at "ev"
  refine brF rfl ?_
  walk_at "ev"
  rfl
def isLn : Cv → Bool
  | .line _ _ _ => true
  | .circ _ _ _ => false
def S_is_line : List PyData → PyData → Prop
  | [a], d => ∃ c, a = cD c ∧ d = .bool (isLn c)
  | _, _ => False
theorem scis_line : FnScope ["curve"] ["curve"] (defScope sis_line) := ⟨rfl, rfl, rfl, by decide +kernel, rfl, by decide +kernel, by decide +kernel⟩
theorem bdis_line : BindsOf "is_line" sis_line ["curve"] := fun _ _ _ _ _ _ us hl => match us, hl with | [_], _ => rfl
theorem okis_line (T : Tx K mg)  : Gd P w K mg base 1 "is_line" ["curve"] (spP K S_is_line) := by
  refine (T.dfn 18 rfl).gdP scis_line bdis_line (fun ds d h => match ds, h with | [_], _ => rfl) (by decide) ?_
  intro f cdv A outer s H E hr
  have nd := scis_line.nd
  refine ⟨_, (pss_one (ps_ret (pe_cmpR op_eq (pe_ix ix_tup (pv 0) pe_int (fun _ _ => rfl)) pe_str (nomark _)))), ?_⟩
  try simp only [cxK, cxN]
  intro ds d h
  rcases ds with _ | ⟨a, _ | ⟨z, zs⟩⟩ <;> (try exact h.elim)
  change EvS _ _ _ [Sl.dat _] _ _
  obtain ⟨c, rfl, rfl⟩ := h
  cases c with
  | line x y z =>
    walk_at "ev"
    rfl
  | circ x y z =>
    walk_at "ev"
    rfl
def S_sign_by : List PyData → PyData → Prop
  | [a, b], d => ∃ c n o, a = cD c ∧ b = plD n o ∧ InC n o ∧ SbC c (inOne n o) ∧ d = .int (signBy c (inOne n o))
  | _, _ => False
theorem scsign_by : FnScope ["curve", "place", "a", "b", "c", "d", "r", "first", "second", "rest", "one", "two", "squares", "beside"] ["curve", "place"] (defScope ssign_by) := ⟨rfl, rfl, rfl, by decide +kernel, rfl, by decide +kernel, by decide +kernel⟩
theorem bdsign_by : BindsOf "sign_by" ssign_by ["curve", "place"] := fun _ _ _ _ _ _ us hl => match us, hl with | [_, _], _ => rfl
theorem oksign_by (T : Tx K mg) (Gin_one : Gd P w K mg base 3 "in_one" ["number", "other"] (spP K S_in_one)) (Gis_line : Gd P w K mg base 1 "is_line" ["curve"] (spP K S_is_line)) (Gplus : Gd P w K mg base 2 "plus" ["one", "two"] (spP K S_plus)) (Gtimes : Gd P w K mg base 2 "times" ["one", "two"] (spP K S_times)) (Gsign_one : Gd P w K mg base 3 "sign_one" ["a", "b", "r"] (spP K S_sign_one)) (Gminus : Gd P w K mg base 2 "minus" ["one", "two"] (spP K S_minus)) : Gd P w K mg base 4 "sign_by" ["curve", "place"] (spP K S_sign_by) := by
  refine (T.dfn 19 rfl).gdP scsign_by bdsign_by (fun ds d h => match ds, h with | [_, _], _ => rfl) (by decide) ?_
  intro f cdv A outer s H E hr
  have nd := scsign_by.nd
  refine ⟨_, (pss_cons (ps_asg (pe_callG Gin_one hr rfl (pa_cons (pe_ix ix_tup (pv 1) pe_int (fun _ _ => rfl)) (pa_cons (pe_ix ix_tup (pv 1) pe_int (fun _ _ => rfl)) pa_nil))) (pg_tup rfl (pgs_cons (pg_name (i := 2) nd rfl (Or.inl rfl)) (pgs_cons (pg_name (i := 3) nd rfl (Or.inl rfl)) (pgs_cons (pg_name (i := 4) nd rfl (Or.inl rfl)) (pgs_cons (pg_name (i := 5) nd rfl (Or.inl rfl)) (pgs_cons (pg_name (i := 6) nd rfl (Or.inl rfl)) pgs_nil)))))))
      (pss_cons (ps_asg (pe_slice sl_tup (pv 0) (po_some pe_int) (po_some pe_int)) (pg_tup rfl (pgs_cons (pg_name (i := 7) nd rfl (Or.inl rfl)) (pgs_cons (pg_name (i := 8) nd rfl (Or.inl rfl)) pgs_nil))))
      (pss_cons (ps_if (pt_val (pe_callG Gis_line (hr.mono (by decide)) rfl (pa_cons (pv 0) pa_nil))) (pss_cons (ps_set (i := 9) nd rfl (Or.inl rfl) (pe_callG Gminus (hr.mono (by decide)) rfl (pa_cons (pe_callG Gplus (hr.mono (by decide)) rfl (pa_cons (pe_callG Gtimes (hr.mono (by decide)) rfl (pa_cons (pv 7) (pa_cons (pv 2) pa_nil))) (pa_cons (pe_callG Gtimes (hr.mono (by decide)) rfl (pa_cons (pv 8) (pa_cons (pv 4) pa_nil))) pa_nil))) (pa_cons (pe_ix ix_tup (pv 0) pe_int (fun _ _ => rfl)) pa_nil))))
      (pss_one (ps_ret (pe_callG Gsign_one hr rfl (pa_cons (pv 9) (pa_cons (pe_callG Gplus (hr.mono (by decide)) rfl (pa_cons (pe_callG Gtimes (hr.mono (by decide)) rfl (pa_cons (pv 7) (pa_cons (pv 3) pa_nil))) (pa_cons (pe_callG Gtimes (hr.mono (by decide)) rfl (pa_cons (pv 8) (pa_cons (pv 5) pa_nil))) pa_nil))) (pa_cons (pv 6) pa_nil))))))) pss_nil)
      (pss_cons (ps_par (i := 10) (j := 11) (by rfl) nd rfl rfl (by decide) rfl rfl (pa_cons (pe_callG Gminus (hr.mono (by decide)) rfl (pa_cons (pv 2) (pa_cons (pv 7) pa_nil))) (pa_cons (pe_callG Gminus (hr.mono (by decide)) rfl (pa_cons (pv 4) (pa_cons (pv 8) pa_nil))) pa_nil)) (by rfl))
      (pss_cons (ps_set (i := 12) nd rfl (Or.inl rfl) (pe_callG Gplus (hr.mono (by decide)) rfl (pa_cons (pe_callG Gplus (hr.mono (by decide)) rfl (pa_cons (pe_callG Gtimes (hr.mono (by decide)) rfl (pa_cons (pv 10) (pa_cons (pv 10) pa_nil))) (pa_cons (pe_callG Gtimes (hr.mono (by decide)) rfl (pa_cons (pv 11) (pa_cons (pv 11) pa_nil))) pa_nil))) (pa_cons (pe_callG Gtimes (hr.mono (by decide)) rfl (pa_cons (pe_callG Gplus (hr.mono (by decide)) rfl (pa_cons (pe_callG Gtimes (hr.mono (by decide)) rfl (pa_cons (pv 3) (pa_cons (pv 3) pa_nil))) (pa_cons (pe_callG Gtimes (hr.mono (by decide)) rfl (pa_cons (pv 5) (pa_cons (pv 5) pa_nil))) pa_nil))) (pa_cons (pe_tup (pa_cons (pv 6) (pa_cons pe_int pa_nil))) pa_nil))) pa_nil))))
      (pss_cons (ps_set (i := 13) nd rfl (Or.inl rfl) (pe_callG Gtimes (hr.mono (by decide)) rfl (pa_cons (pe_glob (v := .ref (He.ga K "TWO")) rfl T.two rfl) (pa_cons (pe_callG Gplus (hr.mono (by decide)) rfl (pa_cons (pe_callG Gtimes (hr.mono (by decide)) rfl (pa_cons (pv 10) (pa_cons (pv 3) pa_nil))) (pa_cons (pe_callG Gtimes (hr.mono (by decide)) rfl (pa_cons (pv 11) (pa_cons (pv 5) pa_nil))) pa_nil))) pa_nil))))
      (pss_one (ps_ret (pe_callG Gsign_one hr rfl (pa_cons (pe_callG Gminus (hr.mono (by decide)) rfl (pa_cons (pv 12) (pa_cons (pe_ix ix_tup (pv 0) pe_int (fun _ _ => rfl)) pa_nil))) (pa_cons (pv 13) (pa_cons (pv 6) pa_nil)))))))))))), ?_⟩
  try simp only [cxK, cxN]
  intro ds d h
  rcases ds with _ | ⟨a, _ | ⟨b, _ | ⟨z, zs⟩⟩⟩ <;> (try exact h.elim)
  change EvS _ _ _ [Sl.dat _, Sl.dat _, Sl.no, Sl.no, Sl.no, Sl.no, Sl.no, Sl.no, Sl.no, Sl.no, Sl.no, Sl.no, Sl.no, Sl.no] _ _
  obtain ⟨c, n, o, rfl, rfl, h1, h2, rfl⟩ := h
  walk_at "ev"
  refine ev_in_one ?_
  walk_at "ev"
  refine ⟨n, o, rfl, h1, ?_⟩
  clear h1
  generalize inOne n o = five at *
  obtain ⟨p, q, s', t', r⟩ := five
  cases c with
  | line x y z =>
    obtain ⟨c1, c2, c3, c4, c5, c6, c7, c8⟩ := h2
    walk_at "ev"
    refine ev_slT (n := 4) (sl_int 1) (sl_int 3) (by decide) ?_
    walk_at "ev"
    refine ⟨_, [qD x, qD y], rfl, rfl, rfl, ?_⟩
    walk_at "ev"
    refine ev_callP ?_
    walk_at "ev"
    refine ⟨[cD (.line x y z)], _, rfl, ⟨_, rfl, rfl⟩, ?_⟩
    walk_at "ev"
    refine brT rfl ?_
    walk_at "ev"
    refine ev_minus ?_
    walk_at "ev"
    refine ev_plus ?_
    walk_at "ev"
    refine ev_times ?_
    walk_at "ev"
    refine ⟨x, p, rfl, c1, ?_⟩
    walk_at "ev"
    refine ev_times ?_
    walk_at "ev"
    refine ⟨y, s', rfl, c2, ?_⟩
    walk_at "ev"
    refine ⟨_, _, rfl, c3, ?_⟩
    walk_at "ev"
    refine ⟨_, z, rfl, c4, ?_⟩
    walk_at "ev"
    refine ev_sign_one ?_
    walk_at "ev"
    refine ev_plus ?_
    walk_at "ev"
    refine ev_times ?_
    walk_at "ev"
    refine ⟨x, q, rfl, c5, ?_⟩
    walk_at "ev"
    refine ev_times ?_
    walk_at "ev"
    refine ⟨y, t', rfl, c6, ?_⟩
    walk_at "ev"
    refine ⟨_, _, rfl, c7, ?_⟩
    walk_at "ev"
    exact ⟨_, _, r, rfl, c8, rfl⟩
  | circ x y z =>
    obtain ⟨c1, c2, c3, c4, c5, c6, c7, c8, c9, c10, c11, c12, c13, c14, c15, c16⟩ := h2
    walk_at "ev"
    refine ev_slT (n := 4) (sl_int 1) (sl_int 3) (by decide) ?_
    walk_at "ev"
    refine ⟨_, [qD x, qD y], rfl, rfl, rfl, ?_⟩
    walk_at "ev"
    refine ev_callP ?_
    walk_at "ev"
    refine ⟨[cD (.circ x y z)], _, rfl, ⟨_, rfl, rfl⟩, ?_⟩
    walk_at "ev"
    refine brF rfl ?_
    walk_at "ev"
    refine ev_minus ?_
    walk_at "ev"
    refine ⟨p, x, rfl, c1, ?_⟩
    walk_at "ev"
    refine ev_minus ?_
    walk_at "ev"
    refine ⟨s', y, rfl, c2, ?_⟩
    walk_at "ev"
    refine ev_plus ?_
    walk_at "ev"
    refine ev_plus ?_
    walk_at "ev"
    refine ev_times ?_
    walk_at "ev"
    refine ⟨_, _, rfl, c3, ?_⟩
    walk_at "ev"
    refine ev_times ?_
    walk_at "ev"
    refine ⟨_, _, rfl, c4, ?_⟩
    walk_at "ev"
    refine ⟨_, _, rfl, c5, ?_⟩
    walk_at "ev"
    refine ev_times ?_
    walk_at "ev"
    refine ev_plus ?_
    walk_at "ev"
    refine ev_times ?_
    walk_at "ev"
    refine ⟨q, q, rfl, c6, ?_⟩
    walk_at "ev"
    refine ev_times ?_
    walk_at "ev"
    refine ⟨t', t', rfl, c7, ?_⟩
    walk_at "ev"
    refine ⟨_, _, rfl, c8, ?_⟩
    walk_at "ev"
    refine ⟨_, (r, 1), rfl, c9, ?_⟩
    walk_at "ev"
    refine ⟨_, _, rfl, c10, ?_⟩
    walk_at "ev"
    refine ev_times ?_
    walk_at "ev"
    refine ev_con T.rpTwo ?_
    walk_at "ev"
    refine ev_plus ?_
    walk_at "ev"
    refine ev_times ?_
    walk_at "ev"
    refine ⟨_, q, rfl, c11, ?_⟩
    walk_at "ev"
    refine ev_times ?_
    walk_at "ev"
    refine ⟨_, t', rfl, c12, ?_⟩
    walk_at "ev"
    refine ⟨_, _, rfl, c13, ?_⟩
    walk_at "ev"
    refine ⟨(2, 1), _, rfl, c14, ?_⟩
    walk_at "ev"
    refine ev_sign_one ?_
    walk_at "ev"
    refine ev_minus ?_
    walk_at "ev"
    refine ⟨_, z, rfl, c15, ?_⟩
    walk_at "ev"
    exact ⟨_, _, r, rfl, c16, rfl⟩
def S_sign_at : List PyData → PyData → Prop
  | [a, b], d => ∃ c n o, a = cD c ∧ b = plD n o ∧ CvOk c ∧ PlOk n o ∧ InC n o ∧ SbC c (inOne n o) ∧ d = .int (signBy c (inOne n o))
  | _, _ => False
theorem scsign_at : FnScope ["curve", "place"] ["curve", "place"] (defScope ssign_at) := ⟨rfl, rfl, rfl, by decide +kernel, rfl, by decide +kernel, by decide +kernel⟩
theorem bdsign_at : BindsOf "sign_at" ssign_at ["curve", "place"] := fun _ _ _ _ _ _ us hl => match us, hl with | [_, _], _ => rfl
theorem oksign_at (T : Tx K mg) (Gcheck_curve : Gd P w K mg base 5 "check_curve" ["value"] (spP K S_check_curve)) (Gcheck_place : Gd P w K mg base 6 "check_place" ["value"] (spP K S_check_place)) (Gsign_by : Gd P w K mg base 4 "sign_by" ["curve", "place"] (spP K S_sign_by)) : Gd P w K mg base 7 "sign_at" ["curve", "place"] (spP K S_sign_at) := by
  refine (T.dfn 23 rfl).gdP scsign_at bdsign_at (fun ds d h => match ds, h with | [_, _], _ => rfl) (by decide) ?_
  intro f cdv A outer s H E hr
  have nd := scsign_at.nd
  refine ⟨_, (pss_cons (ps_expr (pe_callG Gcheck_curve (hr.mono (by decide)) rfl (pa_cons (pv 0) pa_nil)))
      (pss_cons (ps_expr (pe_callG Gcheck_place hr rfl (pa_cons (pv 1) pa_nil)))
      (pss_one (ps_ret (pe_callG Gsign_by (hr.mono (by decide)) rfl (pa_cons (pv 0) (pa_cons (pv 1) pa_nil))))))), ?_⟩
  try simp only [cxK, cxN]
  intro ds d h
  rcases ds with _ | ⟨a, _ | ⟨b, _ | ⟨z, zs⟩⟩⟩ <;> (try exact h.elim)
  change EvS _ _ _ [Sl.dat _, Sl.dat _] _ _
  obtain ⟨c, n, o, rfl, rfl, h0, h1, h2, h3, rfl⟩ := h
  walk_at "ev"
  refine ev_callP ?_
  walk_at "ev"
  refine ⟨[cD c], _, rfl, ⟨c, rfl, h0, rfl⟩, ?_⟩
  walk_at "ev"
  refine ev_callP ?_
  walk_at "ev"
  refine ⟨[plD n o], _, rfl, ⟨n, o, rfl, h1, rfl⟩, ?_⟩
  walk_at "ev"
  refine ev_callP ?_
  walk_at "ev"
  exact ⟨[cD c, plD n o], _, rfl, ⟨c, n, o, rfl, rfl, h2, h3, rfl⟩, rfl⟩
end
end Pl
end
section
set_option Elab.async false
set_option linter.all false
set_option maxRecDepth 100000
set_option autoImplicit false
set_option maxHeartbeats 1000000
/-! the law's arithmetic -/
namespace Pl
open PySem PySem.Spec PyProof.Rows L2
local macro_rules | `(tactic| walk_at "ev1") => `(tactic| first
  | with_reducible refine ev_var rfl ?_
  | with_reducible refine ev_ref rfl ?_
  | with_reducible refine ev_int ?_
  | with_reducible refine ev_str ?_
  | with_reducible refine ev_bl ?_
  | with_reducible refine ev_ty ?_
  | with_reducible refine ev_op ?_
  | with_reducible refine ev_un ?_
  | with_reducible refine ev_if ?_
  | with_reducible refine ev_tup ?_
  | with_reducible refine ev_lst ?_
  | with_reducible refine ev_cb ?_
  | with_reducible refine ev_andV ?_
  | with_reducible refine ev_orV ?_
  | with_reducible refine ev_notV ?_
  | with_reducible refine ec_val ?_
  | with_reducible refine ec_test ?_
  | with_reducible refine ec_not ?_
  | with_reducible refine ec_and ?_
  | with_reducible refine ec_or ?_
  | with_reducible refine ea_nil ?_
  | with_reducible refine ea_cons ?_
  | with_reducible refine es_seq ?_
  | with_reducible refine es_drop ?_
  | with_reducible refine es_ret ?_
  | with_reducible refine es_if ?_
  | with_reducible refine es_asg ?_
  | with_reducible refine es_asgG ?_
  | with_reducible refine es_par ?_
  | with_reducible refine es_par3 ?_
  | with_reducible refine es_next ?_
  | with_reducible refine eg_name (by (simp only [List.set_cons_succ, List.set_cons_zero]); exact rfl) ?_
  | with_reducible refine par_q (by (simp only [List.set_cons_succ, List.set_cons_zero]); exact rfl) ?_
  | with_reducible refine par_q3 (by (simp only [List.set_cons_succ, List.set_cons_zero]); exact rfl) ?_
  | with_reducible refine asg_dat (by (simp only [List.set_cons_succ, List.set_cons_zero]); exact rfl) ?_
  | with_reducible refine asg_ref (by (simp only [List.set_cons_succ, List.set_cons_zero]); exact rfl) ?_
  | with_reducible refine eg_tup rfl ?_
  | with_reducible refine eg_cons ?_
  | with_reducible refine eg_nil ?_
  | with_reducible refine tup_q2 ?_
  | with_reducible refine tup_q3 ?_
  | with_reducible refine tup_q4 ?_
  | with_reducible refine tup_q5 ?_
  | with_reducible refine tup_q8 ?_
  | with_reducible refine tup_q11 ?_
  | with_reducible refine tup_q0 ?_
  | with_reducible refine tup_q1 ?_
  | with_reducible refine tst ?_
  | with_reducible refine tun ?_
  | with_reducible refine r2_ix rfl ?_
  | with_reducible refine r2_i0 ?_
  | with_reducible refine r2_b0 ?_
  | with_reducible refine r2_eqI ?_
  | with_reducible refine r2_neI ?_
  | with_reducible refine r2_eqS ?_
  | with_reducible refine r2_neS ?_
  | with_reducible refine r2_subB ?_
  | with_reducible refine cb_gcd ?_
  | with_reducible refine cb_abs ?_
  | with_reducible refine cb_int ?_
  | with_reducible refine cb_lenT ?_)
local macro_rules | `(tactic| walk_at "sz") => `(tactic| first
  | assumption
  | with_reducible exact sz_0
  | with_reducible exact sz_1
  | with_reducible exact sz_2
  | with_reducible exact sz_4
  | with_reducible exact sz_m1
  | with_reducible exact Sz.mul (by walk_at "sz") (by walk_at "sz")
  | with_reducible exact Sz.add (by walk_at "sz") (by walk_at "sz")
  | with_reducible exact Sz.sub (by walk_at "sz") (by walk_at "sz")
  | with_reducible exact Sz.neg (by walk_at "sz"))
local macro_rules | `(tactic| walk_at "mulok") => `(tactic| first
  | assumption
  | exact mulok (by walk_at "sz") (by walk_at "sz") (by decide))
local macro_rules | `(tactic| walk_at "ev1") => `(tactic| (refine r2_i (C := CMulW) ?_ ?_; walk_at "mulok"))
local macro_rules | `(tactic| walk_at "ev") => `(tactic| repeat walk_at "ev1")
section
variable {P : Program} {w : World} {K : PySem.W.Frag} {mg : Str → Option Value} {base : Heap}
def S_common : List PyData → PyData → Prop
  | [a, b], d => ∃ x y : Int, a = .int x ∧ b = .int y ∧ d = .int (common x y)
  | _, _ => False
theorem abs_nn (x : Int) : (if x < 0 then -x else x) = (x.natAbs : Int) := by split <;> omega
theorem md_nn {f r : Nat} (h : 0 < r) : (f : Int).fmod (r : Int) = ((f % r : Nat) : Int) := by
  rw [Int.fmod_eq_emod_of_nonneg _ (by omega)]
  exact Int.natCast_emod f r
theorem sc_law_common : FnScope ["_law_one", "_law_two", "_law_far", "_law_rest"] ["_law_one", "_law_two"] (defScope s_law_common) := ⟨rfl, rfl, rfl, by decide +kernel, rfl, by decide +kernel, by decide +kernel⟩
theorem bd_law_common : BindsOf "_law_common" s_law_common ["_law_one", "_law_two"] := fun _ _ _ _ _ _ us hl => match us, hl with | [_, _], _ => rfl
theorem ok_law_common (T : Tx K mg)  : Gd P w K mg base 1 "_law_common" ["_law_one", "_law_two"] (spP K S_common) := by
  refine (T.dfn 27 rfl).gdP sc_law_common bd_law_common (fun ds d h => match ds, h with | [_, _], _ => rfl) (by decide) ?_
  intro f cdv A outer s H E hr
  have nd := sc_law_common.nd
  refine ⟨_, (pss_cons (ps_par (i := 2) (j := 3) (by rfl) nd rfl rfl (by decide) rfl rfl (pa_cons (pe_callB call_abs (by rfl) (T.free "abs") (by decide +kernel) (pa_cons (pv 0) pa_nil)) (pa_cons (pe_callB call_abs (by rfl) (T.free "abs") (by decide +kernel) (pa_cons (pv 1) pa_nil)) pa_nil)) (by rfl))
      (pss_cons (ps_while PassesOwn.never (pt_cmpR op_ne (pv 3) pe_int (nomark _)) (pss_one (ps_par (i := 2) (j := 3) (by rfl) nd rfl rfl (by decide) rfl rfl (pa_cons (pv 3) (pa_cons (pe_op op_md (pe_callTy call_int1 (by rfl) (T.free "int") (by decide +kernel) (pa_cons (pv 2) pa_nil)) (pv 3)) pa_nil)) (by rfl))))
      (pss_one (ps_ret (pv 2))))), ?_⟩
  try simp only [cxK, cxN]
  intro ds d h
  rcases ds with _ | ⟨a, _ | ⟨b, _ | ⟨z, zs⟩⟩⟩ <;> (try exact h.elim)
  change EvS _ _ _ [Sl.dat _, Sl.dat _, Sl.no, Sl.no] _ _
  obtain ⟨x, y, rfl, rfl, rfl⟩ := h
  walk_at "ev"
  refine es_while (fun m Γ' T' => ∃ f r : Nat, Γ' = [Sl.dat (.int x), Sl.dat (.int y), Sl.dat (.int f), Sl.dat (.int r)] ∧ T' = [] ∧ m = r ∧ Nat.gcd f r = Nat.gcd x.natAbs y.natAbs) y.natAbs ⟨x.natAbs, y.natAbs, by rw [abs_nn, abs_nn], rfl, rfl, rfl⟩ (fun m Γ' T' ⟨f, r, e1, e2, e3, e4⟩ => ?_)
  subst e1 e2 e3
  walk_at "ev"
  refine ⟨fun hb => ?_, fun hb => ?_⟩
  · have hb : ¬ (m : Int) = 0 := by simpa using hb
    have hr : 0 < m := by omega
    walk_at "ev"
    refine r2_i (C := CMd) hb ?_
    walk_at "ev"
    refine ⟨f % m, Nat.mod_lt _ hr, m, f % m, by rw [md_nn hr], rfl, rfl, ?_⟩
    rw [← e4, Nat.gcd_comm f m, Nat.gcd_rec m f, Nat.gcd_comm]
  · have hb : (m : Int) = 0 := by simpa using hb
    have hr : m = 0 := by omega
    subst hr
    rw [Nat.gcd_zero_right] at e4
    walk_at "ev"
    refine dint ?_
    unfold common
    rw [e4]
theorem ev_common {B : Bx} {T : Th} {Γ : List Sl} {Q : Sl → Prop} {tl : TA} (h : EvA B T tl Γ fun ss => ∃ x y : Int, ss = [.dat (.int x), .dat (.int y)] ∧ Q (.dat (.int (common x y)))) : EvT B T (tCall (spP B.K S_common) [] E0 tl) Γ Q :=
  ev_callP fun σ H k o c => h σ H _ o fun vs H' ss o' kp rr ⟨x, y, e, q⟩ => c vs H' ss o' kp rr ⟨[.int x, .int y], _, e, ⟨x, y, rfl, rfl, rfl⟩, q⟩
def S_lean := S_ratio
theorem sc_law_lean : FnScope ["_law_top", "_law_low", "_law_far"] ["_law_top", "_law_low"] (defScope s_law_lean) := ⟨rfl, rfl, rfl, by decide +kernel, rfl, by decide +kernel, by decide +kernel⟩
theorem bd_law_lean : BindsOf "_law_lean" s_law_lean ["_law_top", "_law_low"] := fun _ _ _ _ _ _ us hl => match us, hl with | [_, _], _ => rfl
theorem ok_law_lean (T : Tx K mg) (G_law_common : Gd P w K mg base 1 "_law_common" ["_law_one", "_law_two"] (spP K S_common)) : Gd P w K mg base 2 "_law_lean" ["_law_top", "_law_low"] (spP K S_lean) := by
  refine (T.dfn 28 rfl).gdP sc_law_lean bd_law_lean (fun ds d h => match ds, h with | [_, _], _ => rfl) (by decide) ?_
  intro f cdv A outer s H E hr
  have nd := sc_law_lean.nd
  refine ⟨_, (pss_cons (ps_set (i := 2) nd rfl (Or.inl rfl) (pe_ifExp (pt_cmpR op_gt (pv 1) pe_int (nomark _)) (pe_callG G_law_common hr rfl (pa_cons (pv 0) (pa_cons (pv 1) pa_nil))) (pe_op op_sub pe_int (pe_callG G_law_common hr rfl (pa_cons (pv 0) (pa_cons (pv 1) pa_nil))))))
      (pss_one (ps_ret (pe_tup (pa_cons (pe_op op_fdv (pv 0) (pv 2)) (pa_cons (pe_op op_fdv (pv 1) (pv 2)) pa_nil)))))), ?_⟩
  try simp only [cxK, cxN]
  intro ds d h
  rcases ds with _ | ⟨a, _ | ⟨b, _ | ⟨z, zs⟩⟩⟩ <;> (try exact h.elim)
  change EvS _ _ _ [Sl.dat _, Sl.dat _, Sl.no] _ _
  obtain ⟨t, l, rfl, rfl, hl, hd, rfl⟩ := h
  walk_at "ev"
  refine brT (decide_eq_true hl) ?_
  refine ev_common ?_
  walk_at "ev"
  refine ⟨_, _, rfl, ?_⟩
  walk_at "ev"
  refine r2_i (hd.dv hl (.inl rfl)) ?_
  walk_at "ev"
  refine r2_i (hd.dv hl (.inr rfl)) ?_
  walk_at "ev"
  have hg := gcd_pos_of (t := t) hl
  show Sl.dat (PyData.tuple [.int (t.fdiv (common t l)), .int (l.fdiv (common t l))]) = _
  unfold common
  rw [Int.fdiv_eq_ediv_of_nonneg _ (by omega), Int.fdiv_eq_ediv_of_nonneg _ (by omega)]
  rfl
theorem ev_lean {B : Bx} {T : Th} {Γ : List Sl} {Q : Sl → Prop} {tl : TA} (h : EvA B T tl Γ fun ss => ∃ t l, ss = [.dat (.int t), .dat (.int l)] ∧ (0 < l ∧ Dok t l) ∧ Q (.dat (qD (ratio t l)))) : EvT B T (tCall (spP B.K S_lean) [] E0 tl) Γ Q :=
  ev_callP fun σ H k o c => h σ H _ o fun vs H' ss o' kp r ⟨t, l, e, ⟨h1, h2⟩, q⟩ => c vs H' ss o' kp r ⟨[.int t, .int l], _, e, ⟨t, l, rfl, rfl, h1, h2, rfl⟩, q⟩
def S_add := S_plus
theorem sc_law_add : FnScope ["_law_one", "_law_two"] ["_law_one", "_law_two"] (defScope s_law_add) := ⟨rfl, rfl, rfl, by decide +kernel, rfl, by decide +kernel, by decide +kernel⟩
theorem bd_law_add : BindsOf "_law_add" s_law_add ["_law_one", "_law_two"] := fun _ _ _ _ _ _ us hl => match us, hl with | [_, _], _ => rfl
theorem ok_law_add (T : Tx K mg) (G_law_lean : Gd P w K mg base 2 "_law_lean" ["_law_top", "_law_low"] (spP K S_lean)) : Gd P w K mg base 3 "_law_add" ["_law_one", "_law_two"] (spP K S_add) := by
  refine (T.dfn 29 rfl).gdP sc_law_add bd_law_add (fun ds d h => match ds, h with | [_, _], _ => rfl) (by decide) ?_
  intro f cdv A outer s H E hr
  have nd := sc_law_add.nd
  refine ⟨_, (pss_one (ps_ret (pe_callG G_law_lean hr rfl (pa_cons (pe_op op_add (pe_op op_mulW (pe_ix ix_tup (pv 0) pe_int (fun _ _ => rfl)) (pe_ix ix_tup (pv 1) pe_int (fun _ _ => rfl))) (pe_op op_mulW (pe_ix ix_tup (pv 1) pe_int (fun _ _ => rfl)) (pe_ix ix_tup (pv 0) pe_int (fun _ _ => rfl)))) (pa_cons (pe_op op_mulW (pe_ix ix_tup (pv 0) pe_int (fun _ _ => rfl)) (pe_ix ix_tup (pv 1) pe_int (fun _ _ => rfl))) pa_nil))))), ?_⟩
  try simp only [cxK, cxN]
  intro ds d h
  rcases ds with _ | ⟨a, _ | ⟨b, _ | ⟨z, zs⟩⟩⟩ <;> (try exact h.elim)
  change EvS _ _ _ [Sl.dat _, Sl.dat _] _ _
  obtain ⟨x, y, rfl, rfl, ⟨h1, h2, h3, h4, h5, h6⟩, rfl⟩ := h
  walk_at "ev"
  refine ev_lean ?_
  walk_at "ev"
  exact ⟨_, _, rfl, ⟨Int.mul_pos h1 h2, h6⟩, rfl⟩
def S_mul := S_times
theorem sc_law_mul : FnScope ["_law_one", "_law_two"] ["_law_one", "_law_two"] (defScope s_law_mul) := ⟨rfl, rfl, rfl, by decide +kernel, rfl, by decide +kernel, by decide +kernel⟩
theorem bd_law_mul : BindsOf "_law_mul" s_law_mul ["_law_one", "_law_two"] := fun _ _ _ _ _ _ us hl => match us, hl with | [_, _], _ => rfl
theorem ok_law_mul (T : Tx K mg) (G_law_lean : Gd P w K mg base 2 "_law_lean" ["_law_top", "_law_low"] (spP K S_lean)) : Gd P w K mg base 3 "_law_mul" ["_law_one", "_law_two"] (spP K S_mul) := by
  refine (T.dfn 30 rfl).gdP sc_law_mul bd_law_mul (fun ds d h => match ds, h with | [_, _], _ => rfl) (by decide) ?_
  intro f cdv A outer s H E hr
  have nd := sc_law_mul.nd
  refine ⟨_, (pss_one (ps_ret (pe_callG G_law_lean hr rfl (pa_cons (pe_op op_mulW (pe_ix ix_tup (pv 0) pe_int (fun _ _ => rfl)) (pe_ix ix_tup (pv 1) pe_int (fun _ _ => rfl))) (pa_cons (pe_op op_mulW (pe_ix ix_tup (pv 0) pe_int (fun _ _ => rfl)) (pe_ix ix_tup (pv 1) pe_int (fun _ _ => rfl))) pa_nil))))), ?_⟩
  try simp only [cxK, cxN]
  intro ds d h
  rcases ds with _ | ⟨a, _ | ⟨b, _ | ⟨z, zs⟩⟩⟩ <;> (try exact h.elim)
  change EvS _ _ _ [Sl.dat _, Sl.dat _] _ _
  obtain ⟨x, y, rfl, rfl, ⟨h1, h2, h3, h4, h5⟩, rfl⟩ := h
  walk_at "ev"
  refine ev_lean ?_
  walk_at "ev"
  exact ⟨_, _, rfl, ⟨Int.mul_pos h1 h2, h5⟩, rfl⟩
def S_neg : List PyData → PyData → Prop
  | [a], d => ∃ x : Qn, a = qD x ∧ d = qD (qneg x)
  | _, _ => False
theorem sc_law_neg : FnScope ["_law_one"] ["_law_one"] (defScope s_law_neg) := ⟨rfl, rfl, rfl, by decide +kernel, rfl, by decide +kernel, by decide +kernel⟩
theorem bd_law_neg : BindsOf "_law_neg" s_law_neg ["_law_one"] := fun _ _ _ _ _ _ us hl => match us, hl with | [_], _ => rfl
theorem ok_law_neg (T : Tx K mg)  : Gd P w K mg base 1 "_law_neg" ["_law_one"] (spP K S_neg) := by
  refine (T.dfn 31 rfl).gdP sc_law_neg bd_law_neg (fun ds d h => match ds, h with | [_], _ => rfl) (by decide) ?_
  intro f cdv A outer s H E hr
  have nd := sc_law_neg.nd
  refine ⟨_, (pss_one (ps_ret (pe_tup (pa_cons (pe_op op_sub pe_int (pe_ix ix_tup (pv 0) pe_int (fun _ _ => rfl))) (pa_cons (pe_ix ix_tup (pv 0) pe_int (fun _ _ => rfl)) pa_nil))))), ?_⟩
  try simp only [cxK, cxN]
  intro ds d h
  rcases ds with _ | ⟨a, _ | ⟨z, zs⟩⟩ <;> (try exact h.elim)
  change EvS _ _ _ [Sl.dat _] _ _
  obtain ⟨x, rfl, rfl⟩ := h
  walk_at "ev"
  rfl
theorem ev_add {B : Bx} {T : Th} {Γ : List Sl} {Q : Sl → Prop} {tl : TA} (h : EvA B T tl Γ fun ss => ∃ x y, ss = [.dat (qD x), .dat (qD y)] ∧ AddC x y ∧ Q (.dat (qD (qadd x y)))) : EvT B T (tCall (spP B.K S_add) [] E0 tl) Γ Q :=
  ev_callP fun σ H k o c => h σ H _ o fun vs H' ss o' kp r ⟨x, y, e, h1, q⟩ => c vs H' ss o' kp r ⟨[qD x, qD y], _, e, ⟨x, y, rfl, rfl, h1, rfl⟩, q⟩
theorem ev_mul {B : Bx} {T : Th} {Γ : List Sl} {Q : Sl → Prop} {tl : TA} (h : EvA B T tl Γ fun ss => ∃ x y, ss = [.dat (qD x), .dat (qD y)] ∧ MulC x y ∧ Q (.dat (qD (qmul x y)))) : EvT B T (tCall (spP B.K S_mul) [] E0 tl) Γ Q :=
  ev_callP fun σ H k o c => h σ H _ o fun vs H' ss o' kp r ⟨x, y, e, h1, q⟩ => c vs H' ss o' kp r ⟨[qD x, qD y], _, e, ⟨x, y, rfl, rfl, h1, rfl⟩, q⟩
theorem ev_neg {B : Bx} {T : Th} {Γ : List Sl} {Q : Sl → Prop} {tl : TA} (h : EvA B T tl Γ fun ss => ∃ x, ss = [.dat (qD x)] ∧ Q (.dat (qD (qneg x)))) : EvT B T (tCall (spP B.K S_neg) [] E0 tl) Γ Q :=
  ev_callP fun σ H k o c => h σ H _ o fun vs H' ss o' kp r ⟨x, e, q⟩ => c vs H' ss o' kp r ⟨[qD x], _, e, ⟨x, rfl, rfl⟩, q⟩
/-! the root -/
def S_root : List PyData → PyData → Prop
  | [a], d => ∃ n : Int, a = .int n ∧ Sz 16000 n ∧ d = .int (isq n)
  | _, _ => False
theorem r2_shl {B : Bx} {T : Th} {k : Nat} {Q : Sl → Prop} (hk : k ≤ 134217727) (q : Q (.dat (.int (2 ^ k)))) : R2k B T (fun x y H Q => ∃ k : Nat, x = .int 1 ∧ y = .int (k : Int) ∧ k ≤ 134217727 ∧ Q (.int (2 ^ k)) H) (.dat (.int 1)) (.dat (.int (k : Int))) Q := fun x y H c t rx ry cc =>
  ⟨k, rx.int_inv, ry.int_inv, hk, cc _ H _ t Kp.refl (rvI _) q⟩
theorem bits_nn (n : Nat) (h : 0 < n) : Builtin.Int.intBits (n : Int) = n.log2 + 1 := by
  unfold Builtin.Int.intBits
  rw [if_neg (by simp; omega)]
  rfl
theorem isq_nat (n : Nat) : isq (n : Int) = ((PySem.Float64.isqrt n : Nat) : Int) := rfl
theorem cdv_small {a b : Nat} (hb : 0 < b) (hs : b < 2 ^ 9000) : CDv (a : Int) (b : Int) :=
  ⟨by omega, PyProof.noPylong_of_log2 (PySem.Flt.log2_lt_of (by decide) hs)⟩
theorem fdiv_nn (a b : Nat) : (a : Int).fdiv (b : Int) = ((a / b : Nat) : Int) := by
  rw [Int.fdiv_eq_ediv_of_nonneg _ (by omega)]
  exact (Int.natCast_ediv a b).symm
theorem fdiv_2 (a : Nat) : (a : Int).fdiv 2 = ((a / 2 : Nat) : Int) := fdiv_nn a 2
theorem cdv_2 (a : Nat) : CDv (a : Int) 2 := cdv_small (b := 2) (by decide) (by decide)
theorem sc_law_root : FnScope ["_law_number", "_law_found", "_law_spot", "_law_closer"] ["_law_number"] (defScope s_law_root) := ⟨rfl, rfl, rfl, by decide +kernel, rfl, by decide +kernel, by decide +kernel⟩
theorem bd_law_root : BindsOf "_law_root" s_law_root ["_law_number"] := fun _ _ _ _ _ _ us hl => match us, hl with | [_], _ => rfl
theorem ok_law_root (T : Tx K mg)  : Gd P w K mg base 1 "_law_root" ["_law_number"] (spP K S_root) := by
  refine (T.dfn 32 rfl).gdP sc_law_root bd_law_root (fun ds d h => match ds, h with | [_], _ => rfl) (by decide) ?_
  intro f cdv A outer s H E hr
  have nd := sc_law_root.nd
  refine ⟨_, (pss_cons (ps_if (pt_cmpR op_lt (pv 0) pe_int (nomark _)) (pss_one (ps_ret pe_int)) pss_nil)
      (pss_cons (ps_set (i := 1) nd rfl (Or.inl rfl) (pe_op op_oneShl pe_int (pe_op op_add (pe_op op_fdv (pe_bits (pv 0)) pe_int) pe_int)))
      (pss_cons (ps_for PassesOwn.never rfl (pi_range1 rfl (T.free "range") (pa_cons (pe_op op_add (pe_bits (pv 0)) pe_int) pa_nil)) (pg_name (i := 2) nd rfl (Or.inl rfl)) (pss_cons (ps_set (i := 3) nd rfl (Or.inl rfl) (pe_op op_fdv (pe_op op_add (pv 1) (pe_op op_fdv (pv 0) (pv 1))) pe_int))
      (pss_cons (ps_if (pt_cmpR op_ge (pv 3) (pv 1) (nomark _)) (pss_one (ps_ret (pv 1))) pss_nil)
      (pss_one (ps_set (i := 1) nd rfl (Or.inl rfl) (pv 3))))))
      (pss_one (ps_ret (pv 1)))))), ?_⟩
  try simp only [cxK, cxN]
  intro ds d h
  rcases ds with _ | ⟨a, _ | ⟨z, zs⟩⟩ <;> (try exact h.elim)
  change EvS _ _ _ [Sl.dat _, Sl.no, Sl.no, Sl.no] _ _
  obtain ⟨n0, rfl, hs, rfl⟩ := h
  walk_at "ev"
  refine ⟨fun hb => ?_, fun hb => ?_⟩
  · have hb := of_decide_eq_true hb
    walk_at "ev"
    refine dint ?_
    unfold isq
    rw [show n0.toNat = 0 by omega]
    rfl
  · have hb := of_decide_eq_false hb
    obtain ⟨n, rfl⟩ : ∃ n : Nat, n0 = (n : Int) := ⟨n0.toNat, by omega⟩
    have hn : 0 < n := by omega
    have hlog : n.log2 < 16000 := PySem.Flt.log2_lt_of (by decide) hs
    obtain ⟨i1, i2⟩ := PySem.Float64.isqrt_spec n
    rw [isq_nat]
    generalize PySem.Float64.isqrt n = s at *
    walk_at "ev"
    refine ev_bits ?_
    walk_at "ev"
    rw [bits_nn n hn]
    refine r2_i (cdv_2 _) ?_
    walk_at "ev"
    rw [fdiv_2, show (((n.log2 + 1) / 2 : Nat) : Int) + 1 = (((n.log2 + 1) / 2 + 1 : Nat) : Int) from rfl]
    refine r2_shl (k := (n.log2 + 1) / 2 + 1) (by omega) ?_
    walk_at "ev"
    have hL : ((2 : Int) ^ ((n.log2 + 1) / 2 + 1)) = ((2 ^ ((n.log2 + 1) / 2 + 1) : Nat) : Int) := by
      rw [Int.natCast_pow]
      rfl
    rw [hL]
    generalize hLL : (n.log2 + 1) / 2 + 1 = L at *
    have hn2 : n < 2 ^ (n.log2 + 1) := Nat.lt_log2_self
    have hsL : s < 2 ^ L := by
      refine Nat.lt_of_not_le fun z => ?_
      have h1 : 2 ^ L * 2 ^ L ≤ s * s := Nat.mul_le_mul z z
      rw [← Nat.pow_add] at h1
      have h2 : 2 ^ (n.log2 + 1) ≤ 2 ^ (L + L) := Nat.pow_le_pow_right (by decide) (by omega)
      omega
    refine es_range (fun j Γ' T' => ∃ (x : Nat) (y z : Sl), Γ' = [Sl.dat (.int n), Sl.dat (.int x), y, z] ∧ T' = [] ∧ s ≤ x ∧ 0 < x ∧ x ≤ 2 ^ L ∧ (x - s) * 2 ^ j ≤ 2 ^ L) ?_
    walk_at "ev"
    refine ev_bits ?_
    walk_at "ev"
    rw [bits_nn n hn]
    refine ⟨n.log2 + 1 + 4, rfl, by omega, ⟨2 ^ L, _, _, rfl, rfl, by omega, Nat.two_pow_pos L, Nat.le_refl _, by omega⟩, fun j Γ' T' hj ⟨x, y, z, e1, e2, e3, e4, e5, e6⟩ => ?_, fun Γ' T' ⟨x, y, z, e1, e2, e3, e4, e5, e6⟩ => ?_⟩
    · subst e1 e2
      simp only [List.set_cons_succ, List.set_cons_zero]
      obtain ⟨t1, t2⟩ := newton_turn i1 i2 e4 e3 e6
      have hx9 : x < 2 ^ 9000 := Nat.lt_of_le_of_lt e5 (Nat.pow_lt_pow_right (by decide) (by omega))
      walk_at "ev"
      refine r2_i (cdv_small e4 hx9) ?_
      walk_at "ev"
      rw [fdiv_nn]
      have e7 : (x : Int) + ((n / x : Nat) : Int) = ((x + n / x : Nat) : Int) := rfl
      rw [e7]
      refine r2_i (cdv_2 _) ?_
      walk_at "ev"
      rw [fdiv_2]
      generalize (x + n / x) / 2 = y' at *
      refine ⟨fun hb => ?_, fun hb => ?_⟩
      · have hb := of_decide_eq_true hb
        walk_at "ev"
        refine dint ?_
        have := t1 (by omega)
        omega
      · have hb := of_decide_eq_false hb
        obtain ⟨a1, a2⟩ := t2 (by omega)
        have hy : 0 < y' := by
          have hs0 : 0 < s := by
            refine Nat.pos_of_ne_zero fun z => ?_
            subst z
            omega
          omega
        walk_at "ev"
        exact ⟨y', _, _, rfl, rfl, a1, hy, by omega, a2⟩
    · subst e1 e2
      walk_at "ev"
      refine dint ?_
      have := newton_end e3 e6 (by omega)
      omega
theorem ev_root {B : Bx} {T : Th} {Γ : List Sl} {Q : Sl → Prop} {tl : TA} (h : EvA B T tl Γ fun ss => ∃ n : Int, ss = [.dat (.int n)] ∧ Sz 16000 n ∧ Q (.dat (.int (isq n)))) : EvT B T (tCall (spP B.K S_root) [] E0 tl) Γ Q :=
  ev_callP fun σ H k o c => h σ H _ o fun vs H' ss o' kp r ⟨x, e, h1, q⟩ => c vs H' ss o' kp r ⟨[.int x], _, e, ⟨x, rfl, h1, rfl⟩, q⟩
def S_lsq : List PyData → PyData → Prop
  | [a], d => ∃ n : Int, a = .int n ∧ Sz 16000 n ∧ d = .bool (lsq n)
  | _, _ => False
theorem sc_law_is_square : FnScope ["_law_number"] ["_law_number"] (defScope s_law_is_square) := ⟨rfl, rfl, rfl, by decide +kernel, rfl, by decide +kernel, by decide +kernel⟩
theorem bd_law_is_square : BindsOf "_law_is_square" s_law_is_square ["_law_number"] := fun _ _ _ _ _ _ us hl => match us, hl with | [_], _ => rfl
theorem ok_law_is_square (T : Tx K mg) (G_law_root : Gd P w K mg base 1 "_law_root" ["_law_number"] (spP K S_root)) : Gd P w K mg base 2 "_law_is_square" ["_law_number"] (spP K S_lsq) := by
  refine (T.dfn 33 rfl).gdP sc_law_is_square bd_law_is_square (fun ds d h => match ds, h with | [_], _ => rfl) (by decide) ?_
  intro f cdv A outer s H E hr
  have nd := sc_law_is_square.nd
  refine ⟨_, (pss_one (ps_ret (pe_and (pe_cmpR op_ge (pv 0) pe_int (nomark _)) (pe_one (pe_cmpR op_eq (pe_op op_mulW (pe_callG G_law_root hr rfl (pa_cons (pv 0) pa_nil)) (pe_callG G_law_root hr rfl (pa_cons (pv 0) pa_nil))) (pv 0) (nomark _)))))), ?_⟩
  try simp only [cxK, cxN]
  intro ds d h
  rcases ds with _ | ⟨a, _ | ⟨z, zs⟩⟩ <;> (try exact h.elim)
  change EvS _ _ _ [Sl.dat _] _ _
  obtain ⟨n, rfl, hs, rfl⟩ := h
  walk_at "ev"
  refine ⟨fun hb => ?_, fun hb => ?_⟩
  · have hb' := of_decide_eq_true hb
    have hz : Sz 16000 (isq n) := hs.le (by have := isq_le hb'; omega)
    walk_at "ev"
    refine ev_root ?_
    walk_at "ev"
    refine ⟨_, rfl, hs, ?_⟩
    refine ev_root ?_
    walk_at "ev"
    refine ⟨_, rfl, hs, ?_⟩
    walk_at "ev"
    unfold lsq
    rw [hb, Bool.true_and]
  · unfold lsq
    rw [hb, Bool.false_and]
theorem ev_lsq {B : Bx} {T : Th} {Γ : List Sl} {Q : Sl → Prop} {tl : TA} (h : EvA B T tl Γ fun ss => ∃ n : Int, ss = [.dat (.int n)] ∧ Sz 16000 n ∧ Q (.dat (.bool (lsq n)))) : EvT B T (tCall (spP B.K S_lsq) [] E0 tl) Γ Q :=
  ev_callP fun σ H k o c => h σ H _ o fun vs H' ss o' kp r ⟨x, e, h1, q⟩ => c vs H' ss o' kp r ⟨[.int x], _, e, ⟨x, rfl, h1, rfl⟩, q⟩
/-! signs -/
def S_lsgn : List PyData → PyData → Prop
  | [a], d => ∃ n : Int, a = .int n ∧ d = .int (sgn n)
  | _, _ => False
theorem sc_law_sign : FnScope ["_law_number"] ["_law_number"] (defScope s_law_sign) := ⟨rfl, rfl, rfl, by decide +kernel, rfl, by decide +kernel, by decide +kernel⟩
theorem bd_law_sign : BindsOf "_law_sign" s_law_sign ["_law_number"] := fun _ _ _ _ _ _ us hl => match us, hl with | [_], _ => rfl
theorem ok_law_sign (T : Tx K mg)  : Gd P w K mg base 1 "_law_sign" ["_law_number"] (spP K S_lsgn) := by
  refine (T.dfn 34 rfl).gdP sc_law_sign bd_law_sign (fun ds d h => match ds, h with | [_], _ => rfl) (by decide) ?_
  intro f cdv A outer s H E hr
  have nd := sc_law_sign.nd
  refine ⟨_, (pss_one (ps_ret (pe_ifExp (pt_cmpR op_gt (pv 0) pe_int (nomark _)) pe_int (pe_ifExp (pt_cmpR op_eq (pv 0) pe_int (nomark _)) pe_int (pe_un un_neg pe_int))))), ?_⟩
  try simp only [cxK, cxN]
  intro ds d h
  rcases ds with _ | ⟨a, _ | ⟨z, zs⟩⟩ <;> (try exact h.elim)
  change EvS _ _ _ [Sl.dat _] _ _
  obtain ⟨n, rfl, rfl⟩ := h
  unfold sgn
  walk_at "ev"
  refine ⟨fun hb => ?_, fun hb => ?_⟩
  · walk_at "ev"
    refine dint ?_
    rw [if_pos (of_decide_eq_true hb)]
  · have hb := of_decide_eq_false hb
    walk_at "ev"
    refine ⟨fun hc => ?_, fun hc => ?_⟩
    · have hc := of_decide_eq_true hc
      walk_at "ev"
      refine dint ?_
      rw [if_neg hb, if_neg (by omega)]
    · have hc := of_decide_eq_false hc
      walk_at "ev"
      refine dint ?_
      rw [if_neg hb, if_pos (by omega)]
theorem ev_lsgn {B : Bx} {T : Th} {Γ : List Sl} {Q : Sl → Prop} {tl : TA} (h : EvA B T tl Γ fun ss => ∃ n : Int, ss = [.dat (.int n)] ∧ Q (.dat (.int (sgn n)))) : EvT B T (tCall (spP B.K S_lsgn) [] E0 tl) Γ Q :=
  ev_callP fun σ H k o c => h σ H _ o fun vs H' ss o' kp r ⟨x, e, q⟩ => c vs H' ss o' kp r ⟨[.int x], _, e, ⟨x, rfl, rfl⟩, q⟩
def S_lsign : List PyData → PyData → Prop
  | [a, b, c], d => ∃ x y r : Int, a = .int x ∧ b = .int y ∧ c = .int r ∧ Sz 100000 x ∧ Sz 100000 y ∧ Sz 100000 r ∧ d = .int (lsign x y r)
  | _, _ => False
theorem sz_sgn (i : Int) : Sz 2 (sgn i) := by
  unfold sgn Sz
  split
  · decide
  · split <;> decide
theorem sc_law_sign_one : FnScope ["_law_a", "_law_b", "_law_r", "_law_here", "_law_there"] ["_law_a", "_law_b", "_law_r"] (defScope s_law_sign_one) := ⟨rfl, rfl, rfl, by decide +kernel, rfl, by decide +kernel, by decide +kernel⟩
theorem bd_law_sign_one : BindsOf "_law_sign_one" s_law_sign_one ["_law_a", "_law_b", "_law_r"] := fun _ _ _ _ _ _ us hl => match us, hl with | [_, _, _], _ => rfl
theorem ok_law_sign_one (T : Tx K mg) (G_law_sign : Gd P w K mg base 1 "_law_sign" ["_law_number"] (spP K S_lsgn)) : Gd P w K mg base 2 "_law_sign_one" ["_law_a", "_law_b", "_law_r"] (spP K S_lsign) := by
  refine (T.dfn 35 rfl).gdP sc_law_sign_one bd_law_sign_one (fun ds d h => match ds, h with | [_, _, _], _ => rfl) (by decide) ?_
  intro f cdv A outer s H E hr
  have nd := sc_law_sign_one.nd
  refine ⟨_, (pss_cons (ps_par (i := 3) (j := 4) (by rfl) nd rfl rfl (by decide) rfl rfl (pa_cons (pe_callG G_law_sign hr rfl (pa_cons (pv 0) pa_nil)) (pa_cons (pe_ifExp (pt_cmpR op_gt (pv 2) pe_int (nomark _)) (pe_callG G_law_sign hr rfl (pa_cons (pv 1) pa_nil)) pe_int) pa_nil)) (by rfl))
      (pss_cons (ps_if (PW.pt (pw_or (pt_cmpR op_eq (pv 3) (pv 4) (nomark _)) (pw_or1 (pt_cmpR op_eq (pv 4) pe_int (nomark _))))) (pss_one (ps_ret (pv 3))) pss_nil)
      (pss_one (ps_ret (pe_ifExp (pt_cmpR op_eq (pv 3) pe_int (nomark _)) (pv 4) (pe_op op_mulW (pe_callG G_law_sign hr rfl (pa_cons (pe_op op_sub (pe_op op_mulW (pv 0) (pv 0)) (pe_op op_mulW (pe_op op_mulW (pv 1) (pv 1)) (pv 2))) pa_nil)) (pv 3))))))), ?_⟩
  try simp only [cxK, cxN]
  intro ds d h
  rcases ds with _ | ⟨a, _ | ⟨b, _ | ⟨c, _ | ⟨z, zs⟩⟩⟩⟩ <;> (try exact h.elim)
  change EvS _ _ _ [Sl.dat _, Sl.dat _, Sl.dat _, Sl.no, Sl.no] _ _
  obtain ⟨x, y, r, rfl, rfl, rfl, s1, s2, s3, rfl⟩ := h
  have z1 := sz_sgn x
  have z2 := sz_sgn (x * x - y * y * r)
  have fin : ∀ there : Int, there = (if 0 < r then sgn y else 0) → lsign x y r = if sgn x = there ∨ there = 0 then sgn x else if sgn x = 0 then there else sgn (x * x - y * y * r) * sgn x := fun there e => by
    rw [e]
    rfl
  walk_at "ev"
  refine ev_lsgn ?_
  walk_at "ev"
  refine ⟨_, rfl, ?_⟩
  refine ea_cons (ev_ifd (d := .int (if 0 < r then sgn y else 0)) ?_ ?_)
  · walk_at "ev"
    refine ⟨fun hb => ?_, fun hb => ?_⟩
    · refine ev_lsgn ?_
      walk_at "ev"
      refine ⟨_, rfl, ?_⟩
      refine dint ?_
      rw [if_pos (of_decide_eq_true hb)]
    · walk_at "ev"
      refine dint ?_
      rw [if_neg (of_decide_eq_false hb)]
  rw [fin _ rfl]
  generalize (if 0 < r then sgn y else 0) = there
  walk_at "ev"
  refine ⟨fun hb => ?_, fun hb => ?_⟩
  · have hb := of_decide_eq_false hb
    walk_at "ev"
    refine ⟨fun hc => ?_, fun hc => ?_⟩
    · have hc := of_decide_eq_true hc
      walk_at "ev"
      refine dint ?_
      rw [if_pos (.inr hc)]
    · have hc := of_decide_eq_false hc
      walk_at "ev"
      rw [if_neg (fun z => z.elim hb hc)]
      refine ⟨fun hd => ?_, fun hd => ?_⟩
      · have hd := of_decide_eq_true hd
        walk_at "ev"
        refine dint ?_
        rw [if_pos hd]
      · have hd := of_decide_eq_false hd
        walk_at "ev"
        refine ev_lsgn ?_
        walk_at "ev"
        refine ⟨_, rfl, ?_⟩
        walk_at "ev"
        refine dint ?_
        rw [if_neg hd]
  · have hb := of_decide_eq_true hb
    refine brT rfl ?_
    walk_at "ev"
    refine dint ?_
    rw [if_pos (.inl hb)]
theorem ev_lsign {B : Bx} {T : Th} {Γ : List Sl} {Q : Sl → Prop} {tl : TA} (h : EvA B T tl Γ fun ss => ∃ x y r : Int, ss = [.dat (.int x), .dat (.int y), .dat (.int r)] ∧ (Sz 100000 x ∧ Sz 100000 y ∧ Sz 100000 r) ∧ Q (.dat (.int (lsign x y r)))) : EvT B T (tCall (spP B.K S_lsign) [] E0 tl) Γ Q :=
  ev_callP fun σ H k o c => h σ H _ o fun vs H' ss o' kp rr ⟨x, y, r, e, ⟨h1, h2, h3⟩, q⟩ => c vs H' ss o' kp rr ⟨[.int x, .int y, .int r], _, e, ⟨x, y, r, rfl, rfl, rfl, h1, h2, h3, rfl⟩, q⟩
end
end Pl
end
section
set_option Elab.async false
set_option linter.all false
set_option maxRecDepth 100000
set_option autoImplicit false
set_option maxHeartbeats 1000000
/-! the law's seats and crossings -/
namespace Pl
open PySem PySem.Spec PyProof.Rows L2
local macro_rules | `(tactic| walk_at "ev1") => `(tactic| first
  | with_reducible refine ev_var rfl ?_
  | with_reducible refine ev_ref rfl ?_
  | with_reducible refine ev_int ?_
  | with_reducible refine ev_str ?_
  | with_reducible refine ev_bl ?_
  | with_reducible refine ev_ty ?_
  | with_reducible refine ev_op ?_
  | with_reducible refine ev_un ?_
  | with_reducible refine ev_if ?_
  | with_reducible refine ev_tup ?_
  | with_reducible refine ev_lst ?_
  | with_reducible refine ev_cb ?_
  | with_reducible refine ev_andV ?_
  | with_reducible refine ev_orV ?_
  | with_reducible refine ev_notV ?_
  | with_reducible refine ec_val ?_
  | with_reducible refine ec_test ?_
  | with_reducible refine ec_not ?_
  | with_reducible refine ec_and ?_
  | with_reducible refine ec_or ?_
  | with_reducible refine ea_nil ?_
  | with_reducible refine ea_cons ?_
  | with_reducible refine es_seq ?_
  | with_reducible refine es_drop ?_
  | with_reducible refine es_ret ?_
  | with_reducible refine es_if ?_
  | with_reducible refine es_asg ?_
  | with_reducible refine es_asgG ?_
  | with_reducible refine es_par ?_
  | with_reducible refine es_par3 ?_
  | with_reducible refine es_next ?_
  | with_reducible refine eg_name (by (simp only [List.set_cons_succ, List.set_cons_zero]); exact rfl) ?_
  | with_reducible refine par_q (by (simp only [List.set_cons_succ, List.set_cons_zero]); exact rfl) ?_
  | with_reducible refine par_q3 (by (simp only [List.set_cons_succ, List.set_cons_zero]); exact rfl) ?_
  | with_reducible refine asg_dat (by (simp only [List.set_cons_succ, List.set_cons_zero]); exact rfl) ?_
  | with_reducible refine asg_ref (by (simp only [List.set_cons_succ, List.set_cons_zero]); exact rfl) ?_
  | with_reducible refine eg_tup rfl ?_
  | with_reducible refine eg_cons ?_
  | with_reducible refine eg_nil ?_
  | with_reducible refine tup_q2 ?_
  | with_reducible refine tup_q3 ?_
  | with_reducible refine tup_q4 ?_
  | with_reducible refine tup_q5 ?_
  | with_reducible refine tup_q8 ?_
  | with_reducible refine tup_q11 ?_
  | with_reducible refine tup_q0 ?_
  | with_reducible refine tup_q1 ?_
  | with_reducible refine tst ?_
  | with_reducible refine tun ?_
  | with_reducible refine r2_ix rfl ?_
  | with_reducible refine r2_i0 ?_
  | with_reducible refine r2_b0 ?_
  | with_reducible refine r2_eqI ?_
  | with_reducible refine r2_neI ?_
  | with_reducible refine r2_eqS ?_
  | with_reducible refine r2_neS ?_
  | with_reducible refine r2_subB ?_
  | with_reducible refine cb_gcd ?_
  | with_reducible refine cb_abs ?_
  | with_reducible refine cb_int ?_
  | with_reducible refine cb_lenT ?_)
local macro_rules | `(tactic| walk_at "sz") => `(tactic| first
  | assumption
  | with_reducible exact sz_0
  | with_reducible exact sz_1
  | with_reducible exact sz_2
  | with_reducible exact sz_4
  | with_reducible exact sz_m1
  | with_reducible exact Sz.mul (by walk_at "sz") (by walk_at "sz")
  | with_reducible exact Sz.add (by walk_at "sz") (by walk_at "sz")
  | with_reducible exact Sz.sub (by walk_at "sz") (by walk_at "sz")
  | with_reducible exact Sz.neg (by walk_at "sz"))
local macro_rules | `(tactic| walk_at "mulok") => `(tactic| first
  | assumption
  | exact mulok (by walk_at "sz") (by walk_at "sz") (by decide))
local macro_rules | `(tactic| walk_at "ev1") => `(tactic| (refine r2_i (C := CMulW) ?_ ?_; walk_at "mulok"))
local macro_rules | `(tactic| walk_at "ev") => `(tactic| repeat walk_at "ev1")
section
variable {P : Program} {w : World} {K : PySem.W.Frag} {mg : Str → Option Value} {base : Heap}
abbrev t4D (z : T4) : PyData := .tuple [.int z.1, .int z.2.1, .int z.2.2.1, .int z.2.2.2]
abbrev t3D (z : Int × Int × Int) : PyData := .tuple [.int z.1, .int z.2.1, .int z.2.2]
abbrev seatD (z : Seat) : PyData := .tuple [t4D z.1, t4D z.2]
def T4S (n : Nat) (z : T4) : Prop := Sz n z.1 ∧ Sz n z.2.1 ∧ Sz n z.2.2.1 ∧ Sz n z.2.2.2
def S_spread : List PyData → PyData → Prop
  | [a], d => ∃ x : Qn, a = qD x ∧ d = t4D (x.1, 0, 0, x.2)
  | _, _ => False
theorem sc_law_spread : FnScope ["_law_number"] ["_law_number"] (defScope s_law_spread) := ⟨rfl, rfl, rfl, by decide +kernel, rfl, by decide +kernel, by decide +kernel⟩
theorem bd_law_spread : BindsOf "_law_spread" s_law_spread ["_law_number"] := fun _ _ _ _ _ _ us hl => match us, hl with | [_], _ => rfl
theorem ok_law_spread (T : Tx K mg)  : Gd P w K mg base 1 "_law_spread" ["_law_number"] (spP K S_spread) := by
  refine (T.dfn 36 rfl).gdP sc_law_spread bd_law_spread (fun ds d h => match ds, h with | [_], _ => rfl) (by decide) ?_
  intro f cdv A outer s H E hr
  have nd := sc_law_spread.nd
  refine ⟨_, (pss_cons (ps_if (pt_cmpR op_eq (pe_callB call_len (by rfl) (T.free "len") (by decide +kernel) (pa_cons (pv 0) pa_nil)) pe_int (nomark _)) (pss_one (ps_ret (pe_tup (pa_cons (pe_ix ix_tup (pv 0) pe_int (fun _ _ => rfl)) (pa_cons pe_int (pa_cons pe_int (pa_cons (pe_ix ix_tup (pv 0) pe_int (fun _ _ => rfl)) pa_nil))))))) pss_nil)
      (pss_one (ps_ret (pe_tup (pa_cons (pe_op op_sub pe_int (pe_ix ix_tup (pv 0) pe_int (fun _ _ => rfl))) (pa_cons (pe_ifExp (pt_val (pe_ix ix_tup (pv 0) pe_int (fun _ _ => rfl))) pe_int (pe_un un_neg pe_int)) (pa_cons (pe_op op_sub (pe_op op_mulW (pe_ix ix_tup (pv 0) pe_int (fun _ _ => rfl)) (pe_ix ix_tup (pv 0) pe_int (fun _ _ => rfl))) (pe_op op_mulW (pe_op op_mulW pe_int (pe_ix ix_tup (pv 0) pe_int (fun _ _ => rfl))) (pe_ix ix_tup (pv 0) pe_int (fun _ _ => rfl)))) (pa_cons (pe_op op_mulW pe_int (pe_ix ix_tup (pv 0) pe_int (fun _ _ => rfl))) pa_nil)))))))), ?_⟩
  try simp only [cxK, cxN]
  intro ds d h
  rcases ds with _ | ⟨a, _ | ⟨z, zs⟩⟩ <;> (try exact h.elim)
  change EvS _ _ _ [Sl.dat _] _ _
  obtain ⟨x, rfl, rfl⟩ := h
  walk_at "ev"
  refine brT rfl ?_
  walk_at "ev"
  rfl
theorem cdv_of {i j : Int} (hj : 0 < j) (hs : Sz 9000 j) : CDv i j := ⟨by omega, PyProof.noPylong_of_log2 (PySem.Flt.log2_lt_of (by decide) hs)⟩
theorem fdiv_p {i j : Int} (hj : 0 < j) : i.fdiv j = i / j := Int.fdiv_eq_ediv_of_nonneg _ (Int.le_of_lt hj)
def S_formed : List PyData → PyData → Prop
  | [a], d => ∃ z : T4, a = t4D z ∧ 0 < z.2.2.2 ∧ T4S 4000 z ∧ d = nD (formed z)
  | _, _ => False
theorem sc_law_formed : FnScope ["_law_one", "_law_a", "_law_b", "_law_r", "_law_d", "_law_p", "_law_q", "_law_s", "_law_far"] ["_law_one"] (defScope s_law_formed) := ⟨rfl, rfl, rfl, by decide +kernel, rfl, by decide +kernel, by decide +kernel⟩
theorem bd_law_formed : BindsOf "_law_formed" s_law_formed ["_law_one"] := fun _ _ _ _ _ _ us hl => match us, hl with | [_], _ => rfl
theorem ok_law_formed (T : Tx K mg) (G_law_common : Gd P w K mg base 1 "_law_common" ["_law_one", "_law_two"] (spP K S_common)) (G_law_is_square : Gd P w K mg base 2 "_law_is_square" ["_law_number"] (spP K S_lsq)) (G_law_lean : Gd P w K mg base 2 "_law_lean" ["_law_top", "_law_low"] (spP K S_lean)) (G_law_root : Gd P w K mg base 1 "_law_root" ["_law_number"] (spP K S_root)) : Gd P w K mg base 3 "_law_formed" ["_law_one"] (spP K S_formed) := by
  refine (T.dfn 37 rfl).gdP sc_law_formed bd_law_formed (fun ds d h => match ds, h with | [_], _ => rfl) (by decide) ?_
  intro f cdv A outer s H E hr
  have nd := sc_law_formed.nd
  refine ⟨_, (pss_cons (ps_asg (pv 0) (pg_tup rfl (pgs_cons (pg_name (i := 1) nd rfl (Or.inl rfl)) (pgs_cons (pg_name (i := 2) nd rfl (Or.inl rfl)) (pgs_cons (pg_name (i := 3) nd rfl (Or.inl rfl)) (pgs_cons (pg_name (i := 4) nd rfl (Or.inl rfl)) pgs_nil))))))
      (pss_cons (ps_if (PW.pt (pw_or (pt_cmpR op_eq (pv 2) pe_int (nomark _)) (pw_or1 (pt_val (pe_callG G_law_is_square hr rfl (pa_cons (pv 3) pa_nil)))))) (pss_one (ps_ret (pe_callG G_law_lean hr rfl (pa_cons (pe_op op_add (pv 1) (pe_op op_mulW (pv 2) (pe_callG G_law_root (hr.mono (by decide)) rfl (pa_cons (pv 3) pa_nil)))) (pa_cons (pv 4) pa_nil))))) pss_nil)
      (pss_cons (ps_par3 (i := 5) (j := 6) (l := 7) rfl nd rfl rfl rfl (by decide) (by decide) (by decide) rfl rfl rfl (pa_cons (pe_op op_mulW (pv 4) (pv 4)) (pa_cons (pe_op op_sub pe_int (pe_op op_mulW (pe_op op_mulW pe_int (pv 1)) (pv 4))) (pa_cons (pe_op op_sub (pe_op op_mulW (pv 1) (pv 1)) (pe_op op_mulW (pe_op op_mulW (pv 2) (pv 2)) (pv 3))) pa_nil))) (by rfl))
      (pss_cons (ps_set (i := 8) nd rfl (Or.inl rfl) (pe_callG G_law_common (hr.mono (by decide)) rfl (pa_cons (pe_callG G_law_common (hr.mono (by decide)) rfl (pa_cons (pv 5) (pa_cons (pv 6) pa_nil))) (pa_cons (pv 7) pa_nil))))
      (pss_one (ps_ret (pe_tup (pa_cons (pe_op op_fdv (pv 5) (pv 8)) (pa_cons (pe_op op_fdv (pv 6) (pv 8)) (pa_cons (pe_op op_fdv (pv 7) (pv 8)) (pa_cons (pe_cmpR op_gt (pv 2) pe_int (nomark _)) pa_nil))))))))))), ?_⟩
  try simp only [cxK, cxN]
  intro ds d h
  rcases ds with _ | ⟨a, _ | ⟨z, zs⟩⟩ <;> (try exact h.elim)
  change EvS _ _ _ [Sl.dat _, Sl.no, Sl.no, Sl.no, Sl.no, Sl.no, Sl.no, Sl.no, Sl.no] _ _
  obtain ⟨⟨a, b, r, d⟩, rfl, hd, ⟨s1, s2, s3, s4⟩, rfl⟩ := h
  simp only at hd s1 s2 s3 s4
  have sr : Sz 16000 r := s3.mono (by decide)
  have sq : Sz 4000 (isq r) := by
    by_cases hr : 0 ≤ r
    · exact s3.le (by have := isq_le hr; omega)
    · unfold isq
      rw [show r.toNat = 0 by omega]
      exact sz_0.mono (by decide)
  walk_at "ev"
  by_cases hc : b = 0 ∨ lsq r = true
  · have e : formed (a, b, r, d) = .fr (ratio (a + b * isq r) d) := by
      unfold formed
      rw [if_pos hc]
    rw [e]
    have hd2 : Dok (a + b * isq r) d := .inl (s4.mono (by decide))
    by_cases hb : b = 0
    · refine brT' (decide_eq_true hb) ?_
      refine brT rfl ?_
      walk_at "ev"
      refine ev_lean ?_
      walk_at "ev"
      refine ev_root ?_
      walk_at "ev"
      refine ⟨_, rfl, sr, ?_⟩
      walk_at "ev"
      refine ⟨_, _, rfl, ⟨hd, hd2⟩, rfl⟩
    · refine brF' (decide_eq_false hb) ?_
      walk_at "ev"
      refine ev_lsq ?_
      walk_at "ev"
      refine ⟨_, rfl, sr, ?_⟩
      walk_at "ev"
      rcases hc with hc | hc
      · exact absurd hc hb
      refine brT hc ?_
      walk_at "ev"
      refine ev_lean ?_
      walk_at "ev"
      refine ev_root ?_
      walk_at "ev"
      refine ⟨_, rfl, sr, ?_⟩
      walk_at "ev"
      refine ⟨_, _, rfl, ⟨hd, hd2⟩, rfl⟩
  · have hb : ¬ b = 0 := fun z => hc (.inl z)
    have hl : lsq r = false := by
      cases q : lsq r with
      | false => rfl
      | true => exact absurd (.inr q) hc
    refine brF' (decide_eq_false hb) ?_
    walk_at "ev"
    refine ev_lsq ?_
    walk_at "ev"
    refine ⟨_, rfl, sr, ?_⟩
    walk_at "ev"
    refine brF hl ?_
    walk_at "ev"
    refine ev_common ?_
    walk_at "ev"
    refine ev_common ?_
    walk_at "ev"
    refine ⟨_, _, rfl, ?_⟩
    walk_at "ev"
    refine ⟨_, _, rfl, ?_⟩
    walk_at "ev"
    have hp : 0 < d * d := Int.mul_pos hd hd
    have sp : Sz 8000 (d * d) := s4.mul s4
    have g1 := common_pos (a := d * d) (b := 0 - 2 * a * d) (.inl (by omega))
    have g2 := common_pos (a := common (d * d) (0 - 2 * a * d)) (b := a * a - b * b * r) (.inl (by omega))
    have gz : Sz 9000 (common (common (d * d) (0 - 2 * a * d)) (a * a - b * b * r)) := (common_le (.inl ⟨by omega, common_le (.inl ⟨by omega, sp⟩)⟩)).mono (by decide)
    refine r2_i (cdv_of g2 gz) ?_
    walk_at "ev"
    refine r2_i (cdv_of g2 gz) ?_
    walk_at "ev"
    refine r2_i (cdv_of g2 gz) ?_
    walk_at "ev"
    rw [fdiv_p g2, fdiv_p g2, fdiv_p g2]
    have e : formed (a, b, r, d) = .rt (d * d / common (common (d * d) (0 - 2 * a * d)) (a * a - b * b * r)) ((0 - 2 * a * d) / common (common (d * d) (0 - 2 * a * d)) (a * a - b * b * r)) ((a * a - b * b * r) / common (common (d * d) (0 - 2 * a * d)) (a * a - b * b * r)) (decide (0 < b)) := by
      unfold formed
      rw [if_neg hc]
    rw [e]
theorem ev_formed {B : Bx} {T : Th} {Γ : List Sl} {Q : Sl → Prop} {tl : TA} (h : EvA B T tl Γ fun ss => ∃ z, ss = [.dat (t4D z)] ∧ (0 < z.2.2.2 ∧ T4S 4000 z) ∧ Q (.dat (nD (formed z)))) : EvT B T (tCall (spP B.K S_formed) [] E0 tl) Γ Q :=
  ev_callP fun σ H k o c => h σ H _ o fun vs H' ss o' kp r ⟨x, e, ⟨h1, h2⟩, q⟩ => c vs H' ss o' kp r ⟨[t4D x], _, e, ⟨x, rfl, h1, h2, rfl⟩, q⟩
def S_both : List PyData → PyData → Prop
  | [a, b], d => ∃ x y : Qn, a = t4D (x.1, 0, 0, x.2) ∧ b = t4D (y.1, 0, 0, y.2) ∧ Sz 4000 x.1 ∧ Sz 4000 x.2 ∧ Sz 4000 y.1 ∧ Sz 4000 y.2 ∧ d = seatD ((x.1 * y.2, 0 * y.2, 0, x.2 * y.2), (y.1 * x.2, 0, 0, x.2 * y.2))
  | _, _ => False
theorem sc_law_both : FnScope ["_law_one", "_law_two", "_law_a", "_law_b", "_law_r", "_law_d", "_law_c", "_law_e", "_law_s", "_law_f"] ["_law_one", "_law_two"] (defScope s_law_both) := ⟨rfl, rfl, rfl, by decide +kernel, rfl, by decide +kernel, by decide +kernel⟩
theorem bd_law_both : BindsOf "_law_both" s_law_both ["_law_one", "_law_two"] := fun _ _ _ _ _ _ us hl => match us, hl with | [_, _], _ => rfl
theorem ok_law_both (T : Tx K mg) (G_law_root : Gd P w K mg base 1 "_law_root" ["_law_number"] (spP K S_root)) : Gd P w K mg base 2 "_law_both" ["_law_one", "_law_two"] (spP K S_both) := by
  refine (T.dfn 38 rfl).gdP sc_law_both bd_law_both (fun ds d h => match ds, h with | [_, _], _ => rfl) (by decide) ?_
  intro f cdv A outer s H E hr
  have nd := sc_law_both.nd
  refine ⟨_, (pss_cons (ps_asg (pv 0) (pg_tup rfl (pgs_cons (pg_name (i := 2) nd rfl (Or.inl rfl)) (pgs_cons (pg_name (i := 3) nd rfl (Or.inl rfl)) (pgs_cons (pg_name (i := 4) nd rfl (Or.inl rfl)) (pgs_cons (pg_name (i := 5) nd rfl (Or.inl rfl)) pgs_nil))))))
      (pss_cons (ps_asg (pv 1) (pg_tup rfl (pgs_cons (pg_name (i := 6) nd rfl (Or.inl rfl)) (pgs_cons (pg_name (i := 7) nd rfl (Or.inl rfl)) (pgs_cons (pg_name (i := 8) nd rfl (Or.inl rfl)) (pgs_cons (pg_name (i := 9) nd rfl (Or.inl rfl)) pgs_nil))))))
      (pss_cons (ps_if (pt_cmpR op_eq (pv 7) pe_int (nomark _)) (pss_one (ps_ret (pe_tup (pa_cons (pe_tup (pa_cons (pe_op op_mulW (pv 2) (pv 9)) (pa_cons (pe_op op_mulW (pv 3) (pv 9)) (pa_cons (pv 4) (pa_cons (pe_op op_mulW (pv 5) (pv 9)) pa_nil))))) (pa_cons (pe_tup (pa_cons (pe_op op_mulW (pv 6) (pv 5)) (pa_cons pe_int (pa_cons (pv 4) (pa_cons (pe_op op_mulW (pv 5) (pv 9)) pa_nil))))) pa_nil))))) pss_nil)
      (pss_cons (ps_if (pt_cmpR op_eq (pv 3) pe_int (nomark _)) (pss_one (ps_ret (pe_tup (pa_cons (pe_tup (pa_cons (pe_op op_mulW (pv 2) (pv 9)) (pa_cons pe_int (pa_cons (pv 8) (pa_cons (pe_op op_mulW (pv 5) (pv 9)) pa_nil))))) (pa_cons (pe_tup (pa_cons (pe_op op_mulW (pv 6) (pv 5)) (pa_cons (pe_op op_mulW (pv 7) (pv 5)) (pa_cons (pv 8) (pa_cons (pe_op op_mulW (pv 5) (pv 9)) pa_nil))))) pa_nil))))) pss_nil)
      (pss_one (ps_ret (pe_tup (pa_cons (pe_tup (pa_cons (pe_op op_mulW (pe_op op_mulW (pv 2) (pv 9)) (pv 4)) (pa_cons (pe_op op_mulW (pe_op op_mulW (pv 3) (pv 9)) (pv 4)) (pa_cons (pv 4) (pa_cons (pe_op op_mulW (pe_op op_mulW (pv 5) (pv 9)) (pv 4)) pa_nil))))) (pa_cons (pe_tup (pa_cons (pe_op op_mulW (pe_op op_mulW (pv 6) (pv 5)) (pv 4)) (pa_cons (pe_op op_mulW (pe_op op_mulW (pv 7) (pv 5)) (pe_callG G_law_root hr rfl (pa_cons (pe_op op_mulW (pv 4) (pv 8)) pa_nil))) (pa_cons (pv 4) (pa_cons (pe_op op_mulW (pe_op op_mulW (pv 5) (pv 9)) (pv 4)) pa_nil))))) pa_nil))))))))), ?_⟩
  try simp only [cxK, cxN]
  intro ds d h
  rcases ds with _ | ⟨a, _ | ⟨b, _ | ⟨z, zs⟩⟩⟩ <;> (try exact h.elim)
  change EvS _ _ _ [Sl.dat _, Sl.dat _, Sl.no, Sl.no, Sl.no, Sl.no, Sl.no, Sl.no, Sl.no, Sl.no] _ _
  obtain ⟨x, y, rfl, rfl, s1, s2, s3, s4, rfl⟩ := h
  walk_at "ev"
  refine brT rfl ?_
  walk_at "ev"
  rfl
def S_seat : List PyData → PyData → Prop
  | [a], d => ∃ x y : Qn, a = .tuple [qD x, qD y] ∧ Sz 4000 x.1 ∧ Sz 4000 x.2 ∧ Sz 4000 y.1 ∧ Sz 4000 y.2 ∧ d = seatD ((x.1 * y.2, 0 * y.2, 0, x.2 * y.2), (y.1 * x.2, 0, 0, x.2 * y.2))
  | _, _ => False
theorem sc_law_seat : FnScope ["_law_place_here"] ["_law_place_here"] (defScope s_law_seat) := ⟨rfl, rfl, rfl, by decide +kernel, rfl, by decide +kernel, by decide +kernel⟩
theorem bd_law_seat : BindsOf "_law_seat" s_law_seat ["_law_place_here"] := fun _ _ _ _ _ _ us hl => match us, hl with | [_], _ => rfl
theorem ok_law_seat (T : Tx K mg) (G_law_both : Gd P w K mg base 2 "_law_both" ["_law_one", "_law_two"] (spP K S_both)) (G_law_spread : Gd P w K mg base 1 "_law_spread" ["_law_number"] (spP K S_spread)) : Gd P w K mg base 3 "_law_seat" ["_law_place_here"] (spP K S_seat) := by
  refine (T.dfn 39 rfl).gdP sc_law_seat bd_law_seat (fun ds d h => match ds, h with | [_], _ => rfl) (by decide) ?_
  intro f cdv A outer s H E hr
  have nd := sc_law_seat.nd
  refine ⟨_, (pss_one (ps_ret (pe_callG G_law_both hr rfl (pa_cons (pe_callG G_law_spread (hr.mono (by decide)) rfl (pa_cons (pe_ix ix_tup (pv 0) pe_int (fun _ _ => rfl)) pa_nil)) (pa_cons (pe_callG G_law_spread (hr.mono (by decide)) rfl (pa_cons (pe_ix ix_tup (pv 0) pe_int (fun _ _ => rfl)) pa_nil)) pa_nil))))), ?_⟩
  try simp only [cxK, cxN]
  intro ds d h
  rcases ds with _ | ⟨a, _ | ⟨z, zs⟩⟩ <;> (try exact h.elim)
  change EvS _ _ _ [Sl.dat _] _ _
  obtain ⟨x, y, rfl, s1, s2, s3, s4, rfl⟩ := h
  walk_at "ev"
  refine ev_callP ?_
  walk_at "ev"
  refine ev_callP ?_
  walk_at "ev"
  refine ⟨[qD x], _, rfl, ⟨x, rfl, rfl⟩, ?_⟩
  walk_at "ev"
  refine ev_callP ?_
  walk_at "ev"
  refine ⟨[qD y], _, rfl, ⟨y, rfl, rfl⟩, ?_⟩
  walk_at "ev"
  exact ⟨[t4D (x.1, 0, 0, x.2), t4D (y.1, 0, 0, y.2)], _, rfl, ⟨x, y, rfl, rfl, s1, s2, s3, s4, rfl⟩, rfl⟩
/-- a seat whose numbers are of 4000 bits and have something above 0 below -/
def SeatC (z : Seat) : Prop := 0 < z.1.2.2.2 ∧ 0 < z.2.2.2.2 ∧ T4S 4000 z.1 ∧ T4S 4000 z.2
def S_place : List PyData → PyData → Prop
  | [a], d => ∃ z : Seat, a = seatD z ∧ SeatC z ∧ d = plD (formed z.1) (formed z.2)
  | _, _ => False
theorem sc_law_place : FnScope ["_law_seat_here"] ["_law_seat_here"] (defScope s_law_place) := ⟨rfl, rfl, rfl, by decide +kernel, rfl, by decide +kernel, by decide +kernel⟩
theorem bd_law_place : BindsOf "_law_place" s_law_place ["_law_seat_here"] := fun _ _ _ _ _ _ us hl => match us, hl with | [_], _ => rfl
theorem ok_law_place (T : Tx K mg) (G_law_formed : Gd P w K mg base 3 "_law_formed" ["_law_one"] (spP K S_formed)) : Gd P w K mg base 4 "_law_place" ["_law_seat_here"] (spP K S_place) := by
  refine (T.dfn 40 rfl).gdP sc_law_place bd_law_place (fun ds d h => match ds, h with | [_], _ => rfl) (by decide) ?_
  intro f cdv A outer s H E hr
  have nd := sc_law_place.nd
  refine ⟨_, (pss_one (ps_ret (pe_tup (pa_cons (pe_callG G_law_formed hr rfl (pa_cons (pe_ix ix_tup (pv 0) pe_int (fun _ _ => rfl)) pa_nil)) (pa_cons (pe_callG G_law_formed hr rfl (pa_cons (pe_ix ix_tup (pv 0) pe_int (fun _ _ => rfl)) pa_nil)) pa_nil))))), ?_⟩
  try simp only [cxK, cxN]
  intro ds d h
  rcases ds with _ | ⟨a, _ | ⟨z, zs⟩⟩ <;> (try exact h.elim)
  change EvS _ _ _ [Sl.dat _] _ _
  obtain ⟨z, rfl, ⟨h1, h2, h3, h4⟩, rfl⟩ := h
  walk_at "ev"
  refine ev_formed ?_
  walk_at "ev"
  refine ⟨z.1, rfl, ⟨h1, h3⟩, ?_⟩
  walk_at "ev"
  refine ev_formed ?_
  walk_at "ev"
  refine ⟨z.2, rfl, ⟨h2, h4⟩, ?_⟩
  walk_at "ev"
  rfl
/-! lines and circles by whole numbers -/
def S_bar : List PyData → PyData → Prop
  | [c], d => ∃ x y z : Qn, c = cD (.line x y z) ∧ CvS 4000 (.line x y z) ∧ d = t3D (bar x y z)
  | _, _ => False
theorem sc_law_bar : FnScope ["_law_curve_here", "_law_a", "_law_b", "_law_c"] ["_law_curve_here"] (defScope s_law_bar) := ⟨rfl, rfl, rfl, by decide +kernel, rfl, by decide +kernel, by decide +kernel⟩
theorem bd_law_bar : BindsOf "_law_bar" s_law_bar ["_law_curve_here"] := fun _ _ _ _ _ _ us hl => match us, hl with | [_], _ => rfl
theorem ok_law_bar (T : Tx K mg)  : Gd P w K mg base 1 "_law_bar" ["_law_curve_here"] (spP K S_bar) := by
  refine (T.dfn 41 rfl).gdP sc_law_bar bd_law_bar (fun ds d h => match ds, h with | [_], _ => rfl) (by decide) ?_
  intro f cdv A outer s H E hr
  have nd := sc_law_bar.nd
  refine ⟨_, (pss_cons (ps_par3 (i := 1) (j := 2) (l := 3) rfl nd rfl rfl rfl (by decide) (by decide) (by decide) rfl rfl rfl (pa_cons (pe_ix ix_tup (pv 0) pe_int (fun _ _ => rfl)) (pa_cons (pe_ix ix_tup (pv 0) pe_int (fun _ _ => rfl)) (pa_cons (pe_ix ix_tup (pv 0) pe_int (fun _ _ => rfl)) pa_nil))) (by rfl))
      (pss_one (ps_ret (pe_tup (pa_cons (pe_op op_mulW (pe_op op_mulW (pe_ix ix_tup (pv 1) pe_int (fun _ _ => rfl)) (pe_ix ix_tup (pv 2) pe_int (fun _ _ => rfl))) (pe_ix ix_tup (pv 3) pe_int (fun _ _ => rfl))) (pa_cons (pe_op op_mulW (pe_op op_mulW (pe_ix ix_tup (pv 2) pe_int (fun _ _ => rfl)) (pe_ix ix_tup (pv 1) pe_int (fun _ _ => rfl))) (pe_ix ix_tup (pv 3) pe_int (fun _ _ => rfl))) (pa_cons (pe_op op_mulW (pe_op op_mulW (pe_ix ix_tup (pv 3) pe_int (fun _ _ => rfl)) (pe_ix ix_tup (pv 1) pe_int (fun _ _ => rfl))) (pe_ix ix_tup (pv 2) pe_int (fun _ _ => rfl))) pa_nil))))))), ?_⟩
  try simp only [cxK, cxN]
  intro ds d h
  rcases ds with _ | ⟨a, _ | ⟨z, zs⟩⟩ <;> (try exact h.elim)
  change EvS _ _ _ [Sl.dat _, Sl.no, Sl.no, Sl.no] _ _
  obtain ⟨x, y, z, rfl, ⟨s1, s2, s3, s4, s5, s6⟩, rfl⟩ := h
  walk_at "ev"
  rfl
theorem ev_bar {B : Bx} {T : Th} {Γ : List Sl} {Q : Sl → Prop} {tl : TA} (h : EvA B T tl Γ fun ss => ∃ x y z, ss = [.dat (cD (.line x y z))] ∧ CvS 4000 (.line x y z) ∧ Q (.dat (t3D (bar x y z)))) : EvT B T (tCall (spP B.K S_bar) [] E0 tl) Γ Q :=
  ev_callP fun σ H k o c => h σ H _ o fun vs H' ss o' kp r ⟨x, y, z, e, h1, q⟩ => c vs H' ss o' kp r ⟨[cD (.line x y z)], _, e, ⟨x, y, z, rfl, h1, rfl⟩, q⟩
def S_ring : List PyData → PyData → Prop
  | [c], d => ∃ x y z : Qn, c = cD (.circ x y z) ∧ CvS 4000 (.circ x y z) ∧ d = t4D (ring x y z)
  | _, _ => False
theorem sc_law_ring : FnScope ["_law_curve_here", "_law_x", "_law_y", "_law_q", "_law_m"] ["_law_curve_here"] (defScope s_law_ring) := ⟨rfl, rfl, rfl, by decide +kernel, rfl, by decide +kernel, by decide +kernel⟩
theorem bd_law_ring : BindsOf "_law_ring" s_law_ring ["_law_curve_here"] := fun _ _ _ _ _ _ us hl => match us, hl with | [_], _ => rfl
theorem ok_law_ring (T : Tx K mg)  : Gd P w K mg base 1 "_law_ring" ["_law_curve_here"] (spP K S_ring) := by
  refine (T.dfn 42 rfl).gdP sc_law_ring bd_law_ring (fun ds d h => match ds, h with | [_], _ => rfl) (by decide) ?_
  intro f cdv A outer s H E hr
  have nd := sc_law_ring.nd
  refine ⟨_, (pss_cons (ps_par3 (i := 1) (j := 2) (l := 3) rfl nd rfl rfl rfl (by decide) (by decide) (by decide) rfl rfl rfl (pa_cons (pe_ix ix_tup (pv 0) pe_int (fun _ _ => rfl)) (pa_cons (pe_ix ix_tup (pv 0) pe_int (fun _ _ => rfl)) (pa_cons (pe_ix ix_tup (pv 0) pe_int (fun _ _ => rfl)) pa_nil))) (by rfl))
      (pss_cons (ps_set (i := 4) nd rfl (Or.inl rfl) (pe_op op_mulW (pe_op op_mulW (pe_ix ix_tup (pv 1) pe_int (fun _ _ => rfl)) (pe_ix ix_tup (pv 2) pe_int (fun _ _ => rfl))) (pe_ix ix_tup (pv 3) pe_int (fun _ _ => rfl))))
      (pss_one (ps_ret (pe_tup (pa_cons (pe_op op_mulW (pe_op op_mulW (pe_ix ix_tup (pv 1) pe_int (fun _ _ => rfl)) (pe_ix ix_tup (pv 2) pe_int (fun _ _ => rfl))) (pe_ix ix_tup (pv 3) pe_int (fun _ _ => rfl))) (pa_cons (pe_op op_mulW (pe_op op_mulW (pe_ix ix_tup (pv 2) pe_int (fun _ _ => rfl)) (pe_ix ix_tup (pv 1) pe_int (fun _ _ => rfl))) (pe_ix ix_tup (pv 3) pe_int (fun _ _ => rfl))) (pa_cons (pe_op op_mulW (pe_op op_mulW (pe_op op_mulW (pe_ix ix_tup (pv 3) pe_int (fun _ _ => rfl)) (pe_ix ix_tup (pv 1) pe_int (fun _ _ => rfl))) (pe_ix ix_tup (pv 2) pe_int (fun _ _ => rfl))) (pv 4)) (pa_cons (pv 4) pa_nil))))))))), ?_⟩
  try simp only [cxK, cxN]
  intro ds d h
  rcases ds with _ | ⟨a, _ | ⟨z, zs⟩⟩ <;> (try exact h.elim)
  change EvS _ _ _ [Sl.dat _, Sl.no, Sl.no, Sl.no, Sl.no] _ _
  obtain ⟨x, y, z, rfl, ⟨s1, s2, s3, s4, s5, s6⟩, rfl⟩ := h
  walk_at "ev"
  rfl
theorem ev_ring {B : Bx} {T : Th} {Γ : List Sl} {Q : Sl → Prop} {tl : TA} (h : EvA B T tl Γ fun ss => ∃ x y z, ss = [.dat (cD (.circ x y z))] ∧ CvS 4000 (.circ x y z) ∧ Q (.dat (t4D (ring x y z)))) : EvT B T (tCall (spP B.K S_ring) [] E0 tl) Γ Q :=
  ev_callP fun σ H k o c => h σ H _ o fun vs H' ss o' kp r ⟨x, y, z, e, h1, q⟩ => c vs H' ss o' kp r ⟨[cD (.circ x y z)], _, e, ⟨x, y, z, rfl, h1, rfl⟩, q⟩
theorem Red.ne0 {x : Qn} (h : Red x) (n : x ≠ (0, 1)) : x.1 ≠ 0 := fun z => n (by
  obtain ⟨h1, h2⟩ := h
  rw [z] at h2
  simp at h2
  exact Prod.ext z (show x.2 = 1 by omega))
theorem bar_ne {x y z : Qn} (h : CvOk (.line x y z)) : (bar x y z).1 ≠ 0 ∨ (bar x y z).2.1 ≠ 0 := by
  obtain ⟨h1, h2, h3, h4⟩ := h
  have p1 := h1.1
  have p2 := h2.1
  have p3 := h3.1
  rcases h4 with h4 | h4
  · exact .inl (Int.mul_ne_zero (Int.mul_ne_zero (h1.ne0 h4) (by omega)) (by omega))
  · exact .inr (Int.mul_ne_zero (Int.mul_ne_zero (h2.ne0 h4) (by omega)) (by omega))
theorem bar_s {n : Nat} {x y z : Qn} (h : CvS n (.line x y z)) : Sz (n + n + n) (bar x y z).1 ∧ Sz (n + n + n) (bar x y z).2.1 ∧ Sz (n + n + n) (bar x y z).2.2 := by
  obtain ⟨s1, s2, s3, s4, s5, s6⟩ := h
  exact ⟨(s1.mul s4).mul s6, (s3.mul s2).mul s6, (s5.mul s2).mul s4⟩
theorem ring_s {n : Nat} {x y z : Qn} (h : CvS n (.circ x y z)) : Sz (n + n + n) (ring x y z).1 ∧ Sz (n + n + n) (ring x y z).2.1 ∧ Sz (n + n + n + (n + n + n)) (ring x y z).2.2.1 ∧ Sz (n + n + n) (ring x y z).2.2.2 := by
  obtain ⟨s1, s2, s3, s4, s5, s6⟩ := h
  exact ⟨(s1.mul s4).mul s6, (s3.mul s2).mul s6, ((s5.mul s2).mul s4).mul ((s2.mul s4).mul s6), (s2.mul s4).mul s6⟩
/-- some data for a form -/
def formD : Cv → PyData
  | .circ x y z => cD (.circ x y z)
  | .line x y z => .tuple [.str "line", qD ((bar x y z).1.fdiv (frm x y z), 1), qD ((bar x y z).2.1.fdiv (frm x y z), 1), qD ((bar x y z).2.2.fdiv (frm x y z), 1)]
where frm (x y z : Qn) : Int := if (bar x y z).1 < 0 ∨ ((bar x y z).1 = 0 ∧ (bar x y z).2.1 < 0) then 0 - common (common (bar x y z).1 (bar x y z).2.1) (bar x y z).2.2 else common (common (bar x y z).1 (bar x y z).2.1) (bar x y z).2.2
def S_form : List PyData → PyData → Prop
  | [c], d => ∃ e, c = cD e ∧ CvOk e ∧ CvS 300 e ∧ d = formD e
  | _, _ => False
theorem sc_law_form : FnScope ["_law_curve_here", "_law_a", "_law_b", "_law_c", "_law_far"] ["_law_curve_here"] (defScope s_law_form) := ⟨rfl, rfl, rfl, by decide +kernel, rfl, by decide +kernel, by decide +kernel⟩
theorem bd_law_form : BindsOf "_law_form" s_law_form ["_law_curve_here"] := fun _ _ _ _ _ _ us hl => match us, hl with | [_], _ => rfl
theorem ok_law_form (T : Tx K mg) (G_law_bar : Gd P w K mg base 1 "_law_bar" ["_law_curve_here"] (spP K S_bar)) (G_law_common : Gd P w K mg base 1 "_law_common" ["_law_one", "_law_two"] (spP K S_common)) : Gd P w K mg base 2 "_law_form" ["_law_curve_here"] (spP K S_form) := by
  refine (T.dfn 43 rfl).gdP sc_law_form bd_law_form (fun ds d h => match ds, h with | [_], _ => rfl) (by decide) ?_
  intro f cdv A outer s H E hr
  have nd := sc_law_form.nd
  refine ⟨_, (pss_cons (ps_if (pt_cmpR op_eq (pe_ix ix_tup (pv 0) pe_int (fun _ _ => rfl)) pe_str (nomark _)) (pss_one (ps_ret (pv 0))) pss_nil)
      (pss_cons (ps_asg (pe_callG G_law_bar hr rfl (pa_cons (pv 0) pa_nil)) (pg_tup rfl (pgs_cons (pg_name (i := 1) nd rfl (Or.inl rfl)) (pgs_cons (pg_name (i := 2) nd rfl (Or.inl rfl)) (pgs_cons (pg_name (i := 3) nd rfl (Or.inl rfl)) pgs_nil)))))
      (pss_cons (ps_set (i := 4) nd rfl (Or.inl rfl) (pe_callG G_law_common hr rfl (pa_cons (pe_callG G_law_common hr rfl (pa_cons (pv 1) (pa_cons (pv 2) pa_nil))) (pa_cons (pv 3) pa_nil))))
      (pss_cons (ps_if (PW.pt (pw_or (pt_cmpR op_lt (pv 1) pe_int (nomark _)) (pw_or1 (PW.pt (pw_and (pt_cmpR op_eq (pv 1) pe_int (nomark _)) (pw_and1 (pt_cmpR op_lt (pv 2) pe_int (nomark _)))))))) (pss_one (ps_set (i := 4) nd rfl (Or.inl rfl) (pe_op op_sub pe_int (pv 4)))) pss_nil)
      (pss_one (ps_ret (pe_tup (pa_cons pe_str (pa_cons (pe_tup (pa_cons (pe_op op_fdv (pv 1) (pv 4)) (pa_cons pe_int pa_nil))) (pa_cons (pe_tup (pa_cons (pe_op op_fdv (pv 2) (pv 4)) (pa_cons pe_int pa_nil))) (pa_cons (pe_tup (pa_cons (pe_op op_fdv (pv 3) (pv 4)) (pa_cons pe_int pa_nil))) pa_nil))))))))))), ?_⟩
  try simp only [cxK, cxN]
  intro ds d h
  rcases ds with _ | ⟨a, _ | ⟨z, zs⟩⟩ <;> (try exact h.elim)
  change EvS _ _ _ [Sl.dat _, Sl.no, Sl.no, Sl.no, Sl.no] _ _
  obtain ⟨e, rfl, he, hs, rfl⟩ := h
  cases e with
  | circ x y z =>
    walk_at "ev"
    refine brT rfl ?_
    walk_at "ev"
    rfl
  | line x y z =>
    obtain ⟨b1, b2, b3⟩ := bar_s hs
    have hne := bar_ne he
    have g1 : 0 < common (bar x y z).1 (bar x y z).2.1 := common_pos hne
    have g2 : 0 < common (common (bar x y z).1 (bar x y z).2.1) (bar x y z).2.2 := common_pos (.inl (by omega))
    have gz : Sz 9000 (common (common (bar x y z).1 (bar x y z).2.1) (bar x y z).2.2) := (common_le (.inl ⟨by omega, common_le (hne.elim (fun h => .inl ⟨h, b1⟩) (fun h => .inr ⟨h, b2⟩))⟩)).mono (by decide)
    obtain ⟨s1, s2, s3, s4, s5, s6⟩ := hs
    have hs4 : CvS 4000 (.line x y z) := ⟨s1.mono (by decide), s2.mono (by decide), s3.mono (by decide), s4.mono (by decide), s5.mono (by decide), s6.mono (by decide)⟩
    walk_at "ev"
    refine brF rfl ?_
    walk_at "ev"
    refine ev_bar ?_
    walk_at "ev"
    refine ⟨x, y, z, rfl, hs4, ?_⟩
    have cz : ∀ far : Int, far = formD.frm x y z → far ≠ 0 ∧ Sz 9000 far := fun far e => by
      rw [e]
      unfold formD.frm
      split
      · refine ⟨by omega, ?_⟩
        rw [Int.zero_sub]
        exact gz.neg
      · exact ⟨by omega, gz⟩
    have cv : ∀ (i far : Int), far = formD.frm x y z → CDv i far := fun i far e => ⟨(cz far e).1, PyProof.noPylong_of_log2 (PySem.Flt.log2_lt_of (by decide) (cz far e).2)⟩
    generalize hB : bar x y z = B at *
    obtain ⟨a, b, c⟩ := B
    simp only at *
    walk_at "ev"
    refine ev_common ?_
    walk_at "ev"
    refine ev_common ?_
    walk_at "ev"
    refine ⟨_, _, rfl, ?_⟩
    walk_at "ev"
    refine ⟨_, _, rfl, ?_⟩
    walk_at "ev"
    have ef : formD.frm x y z = if a < 0 ∨ (a = 0 ∧ b < 0) then 0 - common (common a b) c else common (common a b) c := by
      unfold formD.frm
      rw [hB]
    have ed : formD (.line x y z) = .tuple [.str "line", qD (a.fdiv (formD.frm x y z), 1), qD (b.fdiv (formD.frm x y z), 1), qD (c.fdiv (formD.frm x y z), 1)] := by
      show PyData.tuple [.str "line", qD ((bar x y z).1.fdiv (formD.frm x y z), 1), qD ((bar x y z).2.1.fdiv (formD.frm x y z), 1), qD ((bar x y z).2.2.fdiv (formD.frm x y z), 1)] = _
      rw [hB]
    rw [ed]
    by_cases hc : a < 0 ∨ (a = 0 ∧ b < 0)
    · rw [if_pos hc] at ef
      have k := fun i => cv i _ ef.symm
      rw [ef]
      have fin : ∀ {R : Prop}, True := fun {_} => trivial
      by_cases ha : a < 0
      · refine brT' (decide_eq_true ha) ?_
        refine brT rfl ?_
        walk_at "ev"
        refine r2_i (k _) ?_
        walk_at "ev"
        refine r2_i (k _) ?_
        walk_at "ev"
        refine r2_i (k _) ?_
        walk_at "ev"
        rfl
      · have hc2 : a = 0 ∧ b < 0 := hc.elim (fun z => absurd z ha) id
        refine brF' (decide_eq_false ha) ?_
        walk_at "ev"
        refine brT (decide_eq_true hc2.1) ?_
        walk_at "ev"
        refine brT (decide_eq_true hc2.2) ?_
        walk_at "ev"
        refine r2_i (k _) ?_
        walk_at "ev"
        refine r2_i (k _) ?_
        walk_at "ev"
        refine r2_i (k _) ?_
        walk_at "ev"
        rfl
    · rw [if_neg hc] at ef
      have k := fun i => cv i _ ef.symm
      rw [ef]
      refine brF' (decide_eq_false fun z => hc (.inl z)) ?_
      walk_at "ev"
      by_cases ha : a = 0
      · refine brT (decide_eq_true ha) ?_
        walk_at "ev"
        refine brF (decide_eq_false fun z => hc (.inr ⟨ha, z⟩)) ?_
        walk_at "ev"
        refine r2_i (k _) ?_
        walk_at "ev"
        refine r2_i (k _) ?_
        walk_at "ev"
        refine r2_i (k _) ?_
        walk_at "ev"
        rfl
      · refine brF (decide_eq_false ha) ?_
        refine brF rfl ?_
        walk_at "ev"
        refine r2_i (k _) ?_
        walk_at "ev"
        refine r2_i (k _) ?_
        walk_at "ev"
        refine r2_i (k _) ?_
        walk_at "ev"
        rfl
def S_side : List PyData → PyData → Prop
  | [c, z], d => ∃ e st, c = cD e ∧ z = seatD st ∧ CvS 300 e ∧ T4S 4000 st.1 ∧ T4S 4000 st.2 ∧ d = .int (side e st)
  | _, _ => False
theorem sc_law_side : FnScope ["_law_curve_here", "_law_seat_here", "_law_x", "_law_y", "_law_r", "_law_d", "_law_a", "_law_b", "_law_c", "_law_u", "_law_v", "_law_t", "_law_m", "_law_e", "_law_f", "_law_g", "_law_h"] ["_law_curve_here", "_law_seat_here"] (defScope s_law_side) := ⟨rfl, rfl, rfl, by decide +kernel, rfl, by decide +kernel, by decide +kernel⟩
theorem bd_law_side : BindsOf "_law_side" s_law_side ["_law_curve_here", "_law_seat_here"] := fun _ _ _ _ _ _ us hl => match us, hl with | [_, _], _ => rfl
theorem ok_law_side (T : Tx K mg) (G_law_ring : Gd P w K mg base 1 "_law_ring" ["_law_curve_here"] (spP K S_ring)) (G_law_sign_one : Gd P w K mg base 2 "_law_sign_one" ["_law_a", "_law_b", "_law_r"] (spP K S_lsign)) (G_law_bar : Gd P w K mg base 1 "_law_bar" ["_law_curve_here"] (spP K S_bar)) : Gd P w K mg base 3 "_law_side" ["_law_curve_here", "_law_seat_here"] (spP K S_side) := by
  refine (T.dfn 44 rfl).gdP sc_law_side bd_law_side (fun ds d h => match ds, h with | [_, _], _ => rfl) (by decide) ?_
  intro f cdv A outer s H E hr
  have nd := sc_law_side.nd
  refine ⟨_, (pss_cons (ps_asg (pv 1) (pg_tup rfl (pgs_cons (pg_name (i := 2) nd rfl (Or.inl rfl)) (pgs_cons (pg_name (i := 3) nd rfl (Or.inl rfl)) pgs_nil))))
      (pss_cons (ps_par (i := 4) (j := 5) (by rfl) nd rfl rfl (by decide) rfl rfl (pa_cons (pe_ix ix_tup (pv 2) pe_int (fun _ _ => rfl)) (pa_cons (pe_ix ix_tup (pv 2) pe_int (fun _ _ => rfl)) pa_nil)) (by rfl))
      (pss_cons (ps_if (pt_cmpR op_eq (pe_ix ix_tup (pv 0) pe_int (fun _ _ => rfl)) pe_str (nomark _)) (pss_cons (ps_asg (pe_callG G_law_bar (hr.mono (by decide)) rfl (pa_cons (pv 0) pa_nil)) (pg_tup rfl (pgs_cons (pg_name (i := 6) nd rfl (Or.inl rfl)) (pgs_cons (pg_name (i := 7) nd rfl (Or.inl rfl)) (pgs_cons (pg_name (i := 8) nd rfl (Or.inl rfl)) pgs_nil)))))
      (pss_one (ps_ret (pe_callG G_law_sign_one hr rfl (pa_cons (pe_op op_sub (pe_op op_add (pe_op op_mulW (pv 6) (pe_ix ix_tup (pv 2) pe_int (fun _ _ => rfl))) (pe_op op_mulW (pv 7) (pe_ix ix_tup (pv 3) pe_int (fun _ _ => rfl)))) (pe_op op_mulW (pv 8) (pv 5))) (pa_cons (pe_op op_add (pe_op op_mulW (pv 6) (pe_ix ix_tup (pv 2) pe_int (fun _ _ => rfl))) (pe_op op_mulW (pv 7) (pe_ix ix_tup (pv 3) pe_int (fun _ _ => rfl)))) (pa_cons (pv 4) pa_nil))))))) pss_nil)
      (pss_cons (ps_asg (pe_callG G_law_ring (hr.mono (by decide)) rfl (pa_cons (pv 0) pa_nil)) (pg_tup rfl (pgs_cons (pg_name (i := 9) nd rfl (Or.inl rfl)) (pgs_cons (pg_name (i := 10) nd rfl (Or.inl rfl)) (pgs_cons (pg_name (i := 11) nd rfl (Or.inl rfl)) (pgs_cons (pg_name (i := 12) nd rfl (Or.inl rfl)) pgs_nil))))))
      (pss_cons (ps_asg (pe_tup (pa_cons (pe_op op_sub (pe_op op_mulW (pv 12) (pe_ix ix_tup (pv 2) pe_int (fun _ _ => rfl))) (pe_op op_mulW (pv 9) (pv 5))) (pa_cons (pe_op op_mulW (pv 12) (pe_ix ix_tup (pv 2) pe_int (fun _ _ => rfl))) (pa_cons (pe_op op_sub (pe_op op_mulW (pv 12) (pe_ix ix_tup (pv 3) pe_int (fun _ _ => rfl))) (pe_op op_mulW (pv 10) (pv 5))) (pa_cons (pe_op op_mulW (pv 12) (pe_ix ix_tup (pv 3) pe_int (fun _ _ => rfl))) pa_nil))))) (pg_tup rfl (pgs_cons (pg_name (i := 13) nd rfl (Or.inl rfl)) (pgs_cons (pg_name (i := 14) nd rfl (Or.inl rfl)) (pgs_cons (pg_name (i := 15) nd rfl (Or.inl rfl)) (pgs_cons (pg_name (i := 16) nd rfl (Or.inl rfl)) pgs_nil))))))
      (pss_one (ps_ret (pe_callG G_law_sign_one hr rfl (pa_cons (pe_op op_sub (pe_op op_add (pe_op op_add (pe_op op_mulW (pv 13) (pv 13)) (pe_op op_mulW (pv 15) (pv 15))) (pe_op op_mulW (pe_op op_add (pe_op op_mulW (pv 14) (pv 14)) (pe_op op_mulW (pv 16) (pv 16))) (pv 4))) (pe_op op_mulW (pe_op op_mulW (pv 11) (pv 5)) (pv 5))) (pa_cons (pe_op op_mulW pe_int (pe_op op_add (pe_op op_mulW (pv 13) (pv 14)) (pe_op op_mulW (pv 15) (pv 16)))) (pa_cons (pv 4) pa_nil))))))))))), ?_⟩
  try simp only [cxK, cxN]
  intro ds d h
  rcases ds with _ | ⟨a, _ | ⟨b, _ | ⟨z, zs⟩⟩⟩ <;> (try exact h.elim)
  change EvS _ _ _ [Sl.dat _, Sl.dat _, Sl.no, Sl.no, Sl.no, Sl.no, Sl.no, Sl.no, Sl.no, Sl.no, Sl.no, Sl.no, Sl.no, Sl.no, Sl.no, Sl.no, Sl.no] _ _
  obtain ⟨e, ⟨⟨a, b, r, d⟩, ⟨c, f', r', d'⟩⟩, rfl, rfl, hs, ⟨s1, s2, s3, s4⟩, ⟨s5, s6, s7, s8⟩, rfl⟩ := h
  simp only at s1 s2 s3 s4 s5 s6 s7 s8
  cases e with
  | line x y z =>
    obtain ⟨b1, b2, b3⟩ := bar_s hs
    obtain ⟨q1, q2, q3, q4, q5, q6⟩ := hs
    have hs4 : CvS 4000 (.line x y z) := ⟨q1.mono (by decide), q2.mono (by decide), q3.mono (by decide), q4.mono (by decide), q5.mono (by decide), q6.mono (by decide)⟩
    walk_at "ev"
    refine brT rfl ?_
    walk_at "ev"
    refine ev_bar ?_
    walk_at "ev"
    refine ⟨x, y, z, rfl, hs4, ?_⟩
    have ee : side (.line x y z) ((a, b, r, d), (c, f', r', d')) = lsign ((bar x y z).1 * a + (bar x y z).2.1 * c - (bar x y z).2.2 * d) ((bar x y z).1 * b + (bar x y z).2.1 * f') r := rfl
    rw [ee]
    generalize bar x y z = B at *
    obtain ⟨u, v, t⟩ := B
    simp only at *
    walk_at "ev"
    refine ev_lsign ?_
    walk_at "ev"
    refine ⟨_, _, _, rfl, ⟨?_, ?_, s3.mono (by decide)⟩, rfl⟩
    · exact (((b1.mul s1).add (b2.mul s5)).sub (b3.mul s4)).mono (by decide)
    · exact ((b1.mul s2).add (b2.mul s6)).mono (by decide)
  | circ x y z =>
    obtain ⟨b1, b2, b3, b4⟩ := ring_s hs
    obtain ⟨q1, q2, q3, q4, q5, q6⟩ := hs
    have hs4 : CvS 4000 (.circ x y z) := ⟨q1.mono (by decide), q2.mono (by decide), q3.mono (by decide), q4.mono (by decide), q5.mono (by decide), q6.mono (by decide)⟩
    walk_at "ev"
    refine brF rfl ?_
    walk_at "ev"
    refine ev_ring ?_
    walk_at "ev"
    refine ⟨x, y, z, rfl, hs4, ?_⟩
    have ee : side (.circ x y z) ((a, b, r, d), (c, f', r', d')) = lsign (((ring x y z).2.2.2 * a - (ring x y z).1 * d) * ((ring x y z).2.2.2 * a - (ring x y z).1 * d) + ((ring x y z).2.2.2 * c - (ring x y z).2.1 * d) * ((ring x y z).2.2.2 * c - (ring x y z).2.1 * d) + ((ring x y z).2.2.2 * b * ((ring x y z).2.2.2 * b) + (ring x y z).2.2.2 * f' * ((ring x y z).2.2.2 * f')) * r - (ring x y z).2.2.1 * d * d) (2 * (((ring x y z).2.2.2 * a - (ring x y z).1 * d) * ((ring x y z).2.2.2 * b) + ((ring x y z).2.2.2 * c - (ring x y z).2.1 * d) * ((ring x y z).2.2.2 * f'))) r := rfl
    rw [ee]
    generalize ring x y z = B at *
    obtain ⟨u, v, t, m⟩ := B
    simp only at *
    walk_at "ev"
    refine ev_lsign ?_
    walk_at "ev"
    have e1 : Sz 4902 (m * a - u * d) := ((b4.mul s1).sub (b1.mul s4)).mono (by decide)
    have e2 : Sz 4902 (m * c - v * d) := ((b4.mul s5).sub (b2.mul s4)).mono (by decide)
    have e3 : Sz 4900 (m * b) := (b4.mul s2).mono (by decide)
    have e4 : Sz 4900 (m * f') := (b4.mul s6).mono (by decide)
    refine ⟨_, _, _, rfl, ⟨?_, ?_, s3.mono (by decide)⟩, rfl⟩
    · exact ((((e1.mul e1).add (e2.mul e2)).add (((e3.mul e3).add (e4.mul e4)).mul s3)).sub ((b3.mul s4).mul s4)).mono (by decide)
    · exact (sz_2.mul ((e1.mul e3).add (e2.mul e4))).mono (by decide)
end
end Pl
end
section
set_option Elab.async false
set_option linter.all false
set_option maxRecDepth 100000
set_option autoImplicit false
set_option maxHeartbeats 1000000
/-! the law's crossings -/
namespace Pl
open PySem PySem.Spec PyProof.Rows L2
local macro_rules | `(tactic| walk_at "ev1") => `(tactic| first
  | with_reducible refine ev_var rfl ?_
  | with_reducible refine ev_ref rfl ?_
  | with_reducible refine ev_int ?_
  | with_reducible refine ev_str ?_
  | with_reducible refine ev_bl ?_
  | with_reducible refine ev_ty ?_
  | with_reducible refine ev_op ?_
  | with_reducible refine ev_un ?_
  | with_reducible refine ev_if ?_
  | with_reducible refine ev_tup ?_
  | with_reducible refine ev_lst ?_
  | with_reducible refine ev_cb ?_
  | with_reducible refine ev_andV ?_
  | with_reducible refine ev_orV ?_
  | with_reducible refine ev_notV ?_
  | with_reducible refine ec_val ?_
  | with_reducible refine ec_test ?_
  | with_reducible refine ec_not ?_
  | with_reducible refine ec_and ?_
  | with_reducible refine ec_or ?_
  | with_reducible refine ea_nil ?_
  | with_reducible refine ea_cons ?_
  | with_reducible refine es_seq ?_
  | with_reducible refine es_drop ?_
  | with_reducible refine es_ret ?_
  | with_reducible refine es_if ?_
  | with_reducible refine es_asg ?_
  | with_reducible refine es_asgG ?_
  | with_reducible refine es_par ?_
  | with_reducible refine es_par3 ?_
  | with_reducible refine es_next ?_
  | with_reducible refine eg_name (by (simp only [List.set_cons_succ, List.set_cons_zero]); exact rfl) ?_
  | with_reducible refine par_q (by (simp only [List.set_cons_succ, List.set_cons_zero]); exact rfl) ?_
  | with_reducible refine par_q3 (by (simp only [List.set_cons_succ, List.set_cons_zero]); exact rfl) ?_
  | with_reducible refine asg_dat (by (simp only [List.set_cons_succ, List.set_cons_zero]); exact rfl) ?_
  | with_reducible refine asg_ref (by (simp only [List.set_cons_succ, List.set_cons_zero]); exact rfl) ?_
  | with_reducible refine eg_tup rfl ?_
  | with_reducible refine eg_cons ?_
  | with_reducible refine eg_nil ?_
  | with_reducible refine tup_q2 ?_
  | with_reducible refine tup_q3 ?_
  | with_reducible refine tup_q4 ?_
  | with_reducible refine tup_q5 ?_
  | with_reducible refine tup_q8 ?_
  | with_reducible refine tup_q11 ?_
  | with_reducible refine tup_q0 ?_
  | with_reducible refine tup_q1 ?_
  | with_reducible refine tst ?_
  | with_reducible refine tun ?_
  | with_reducible refine r2_ix rfl ?_
  | with_reducible refine r2_i0 ?_
  | with_reducible refine r2_b0 ?_
  | with_reducible refine r2_eqI ?_
  | with_reducible refine r2_neI ?_
  | with_reducible refine r2_eqS ?_
  | with_reducible refine r2_neS ?_
  | with_reducible refine r2_subB ?_
  | with_reducible refine cb_gcd ?_
  | with_reducible refine cb_abs ?_
  | with_reducible refine cb_int ?_
  | with_reducible refine cb_lenT ?_)
local macro_rules | `(tactic| walk_at "sz") => `(tactic| first
  | assumption
  | with_reducible exact sz_0
  | with_reducible exact sz_1
  | with_reducible exact sz_2
  | with_reducible exact sz_4
  | with_reducible exact sz_m1
  | with_reducible exact Sz.mul (by walk_at "sz") (by walk_at "sz")
  | with_reducible exact Sz.add (by walk_at "sz") (by walk_at "sz")
  | with_reducible exact Sz.sub (by walk_at "sz") (by walk_at "sz")
  | with_reducible exact Sz.neg (by walk_at "sz"))
local macro_rules | `(tactic| walk_at "mulok") => `(tactic| first
  | assumption
  | exact mulok (by walk_at "sz") (by walk_at "sz") (by decide))
local macro_rules | `(tactic| walk_at "ev1") => `(tactic| (refine r2_i (C := CMulW) ?_ ?_; walk_at "mulok"))
local macro_rules | `(tactic| walk_at "ev") => `(tactic| repeat walk_at "ev1")
section
variable {P : Program} {w : World} {K : PySem.W.Frag} {mg : Str → Option Value} {base : Heap}
abbrev T3 := Int × Int × Int
def T3S (n : Nat) (z : T3) : Prop := Sz n z.1 ∧ Sz n z.2.1 ∧ Sz n z.2.2
abbrev seatsD (l : List Seat) : List PyData := l.map fun z => seatD z
def S_chord : List PyData → List PyData → Prop
  | [a, b], es => ∃ (l : T3) (z : T4), a = t3D l ∧ b = t4D z ∧ (l.1 ≠ 0 ∨ l.2.1 ≠ 0) ∧ T3S 4000 l ∧ T4S 4000 z ∧ es = seatsD (chord l z)
  | _, _ => False
theorem sc_law_chord : FnScope ["_law_bar_here", "_law_ring_here", "_law_far", "_law_a", "_law_b", "_law_c", "_law_u", "_law_v", "_law_t", "_law_m", "_law_n", "_law_k", "_law_r", "_law_x", "_law_y", "_law_d", "_law_found"] ["_law_bar_here", "_law_ring_here"] (defScope s_law_chord) := ⟨rfl, rfl, rfl, by decide +kernel, rfl, by decide +kernel, by decide +kernel⟩
theorem bd_law_chord : BindsOf "_law_chord" s_law_chord ["_law_bar_here", "_law_ring_here"] := fun _ _ _ _ _ _ us hl => match us, hl with | [_, _], _ => rfl
theorem ok_law_chord (T : Tx K mg) (G_law_common : Gd P w K mg base 1 "_law_common" ["_law_one", "_law_two"] (spP K S_common)) : Gd P w K mg base 2 "_law_chord" ["_law_bar_here", "_law_ring_here"] (spL K S_chord) := by
  refine (T.dfn 45 rfl).gdL sc_law_chord bd_law_chord (fun ds d h => match ds, h with | [_, _], _ => rfl) (by decide) ?_
  intro f cdv A outer s H E hr
  have nd := sc_law_chord.nd
  refine ⟨_, (pss_cons (ps_set (i := 2) nd rfl (Or.inl rfl) (pe_callG G_law_common hr rfl (pa_cons (pe_callG G_law_common hr rfl (pa_cons (pe_ix ix_tup (pv 0) pe_int (fun _ _ => rfl)) (pa_cons (pe_ix ix_tup (pv 0) pe_int (fun _ _ => rfl)) pa_nil))) (pa_cons (pe_ix ix_tup (pv 0) pe_int (fun _ _ => rfl)) pa_nil))))
      (pss_cons (ps_par3 (i := 3) (j := 4) (l := 5) rfl nd rfl rfl rfl (by decide) (by decide) (by decide) rfl rfl rfl (pa_cons (pe_op op_fdv (pe_ix ix_tup (pv 0) pe_int (fun _ _ => rfl)) (pv 2)) (pa_cons (pe_op op_fdv (pe_ix ix_tup (pv 0) pe_int (fun _ _ => rfl)) (pv 2)) (pa_cons (pe_op op_fdv (pe_ix ix_tup (pv 0) pe_int (fun _ _ => rfl)) (pv 2)) pa_nil))) (by rfl))
      (pss_cons (ps_asg (pv 1) (pg_tup rfl (pgs_cons (pg_name (i := 6) nd rfl (Or.inl rfl)) (pgs_cons (pg_name (i := 7) nd rfl (Or.inl rfl)) (pgs_cons (pg_name (i := 8) nd rfl (Or.inl rfl)) (pgs_cons (pg_name (i := 9) nd rfl (Or.inl rfl)) pgs_nil))))))
      (pss_cons (ps_par (i := 10) (j := 11) (by rfl) nd rfl rfl (by decide) rfl rfl (pa_cons (pe_op op_sub (pe_op op_add (pe_op op_mulW (pv 3) (pv 6)) (pe_op op_mulW (pv 4) (pv 7))) (pe_op op_mulW (pv 5) (pv 9))) (pa_cons (pe_op op_add (pe_op op_mulW (pv 3) (pv 3)) (pe_op op_mulW (pv 4) (pv 4))) pa_nil)) (by rfl))
      (pss_cons (ps_asg (pe_tup (pa_cons (pe_op op_sub (pe_op op_mulW (pv 8) (pv 11)) (pe_op op_mulW (pv 10) (pv 10))) (pa_cons (pe_op op_sub (pe_op op_mulW (pv 6) (pv 11)) (pe_op op_mulW (pv 10) (pv 3))) (pa_cons (pe_op op_sub (pe_op op_mulW (pv 7) (pv 11)) (pe_op op_mulW (pv 10) (pv 4))) (pa_cons (pe_op op_mulW (pv 9) (pv 11)) pa_nil))))) (pg_tup rfl (pgs_cons (pg_name (i := 12) nd rfl (Or.inl rfl)) (pgs_cons (pg_name (i := 13) nd rfl (Or.inl rfl)) (pgs_cons (pg_name (i := 14) nd rfl (Or.inl rfl)) (pgs_cons (pg_name (i := 15) nd rfl (Or.inl rfl)) pgs_nil))))))
      (pss_cons (ps_if (pt_cmpR op_lt (pv 12) pe_int (nomark _)) (pss_one (ps_ret (pe_lst pa_nil))) pss_nil)
      (pss_cons (ps_if (pt_cmpR op_eq (pv 12) pe_int (nomark _)) (pss_one (ps_ret (pe_lst (pa_cons (pe_tup (pa_cons (pe_tup (pa_cons (pv 13) (pa_cons pe_int (pa_cons pe_int (pa_cons (pv 15) pa_nil))))) (pa_cons (pe_tup (pa_cons (pv 14) (pa_cons pe_int (pa_cons pe_int (pa_cons (pv 15) pa_nil))))) pa_nil))) pa_nil)))) pss_nil)
      (pss_cons (ps_set (i := 16) nd rfl (Or.inl rfl) (pe_lst (pa_cons (pe_tup (pa_cons (pe_tup (pa_cons (pv 13) (pa_cons (pe_op op_sub pe_int (pv 4)) (pa_cons (pv 12) (pa_cons (pv 15) pa_nil))))) (pa_cons (pe_tup (pa_cons (pv 14) (pa_cons (pv 3) (pa_cons (pv 12) (pa_cons (pv 15) pa_nil))))) pa_nil))) (pa_cons (pe_tup (pa_cons (pe_tup (pa_cons (pv 13) (pa_cons (pv 4) (pa_cons (pv 12) (pa_cons (pv 15) pa_nil))))) (pa_cons (pe_tup (pa_cons (pv 14) (pa_cons (pe_op op_sub pe_int (pv 3)) (pa_cons (pv 12) (pa_cons (pv 15) pa_nil))))) pa_nil))) pa_nil))))
      (pss_one (ps_ret (pe_ifExp (PW.pt (pw_or (pt_cmpR op_gt (pv 4) pe_int (nomark _)) (pw_or1 (PW.pt (pw_and (pt_cmpR op_eq (pv 4) pe_int (nomark _)) (pw_and1 (pt_cmpR op_lt (pv 3) pe_int (nomark _)))))))) (pv 16) (pe_revL (pv 16))))))))))))), ?_⟩
  try simp only [cxK, cxN]
  intro ds es h
  rcases ds with _ | ⟨a, _ | ⟨b, _ | ⟨z, zs⟩⟩⟩ <;> (try exact h.elim)
  change EvS _ _ _ [Sl.dat _, Sl.dat _, Sl.no, Sl.no, Sl.no, Sl.no, Sl.no, Sl.no, Sl.no, Sl.no, Sl.no, Sl.no, Sl.no, Sl.no, Sl.no, Sl.no, Sl.no] _ _
  obtain ⟨⟨a0, b0, c0⟩, ⟨u, v, t, m⟩, rfl, rfl, hne, ⟨s1, s2, s3⟩, ⟨s4, s5, s6, s7⟩, rfl⟩ := h
  simp only at hne s1 s2 s3 s4 s5 s6 s7
  have g1 : 0 < common a0 b0 := common_pos hne
  have g2 : 0 < common (common a0 b0) c0 := common_pos (.inl (by omega))
  have gz : Sz 9000 (common (common a0 b0) c0) := (common_le (.inl ⟨by omega, common_le (hne.elim (fun h => .inl ⟨h, s1⟩) (fun h => .inr ⟨h, s2⟩))⟩)).mono (by decide)
  have d0 : common (common a0 b0) c0 ∣ common a0 b0 := common_dvd_l _ _
  have z1 := sz_div s1 (Int.dvd_trans d0 (common_dvd_l a0 b0))
  have z2 := sz_div s2 (Int.dvd_trans d0 (common_dvd_r a0 b0))
  have z3 := sz_div s3 (common_dvd_r (common a0 b0) c0)
  walk_at "ev"
  refine ev_common ?_
  walk_at "ev"
  refine ev_common ?_
  walk_at "ev"
  refine ⟨_, _, rfl, ?_⟩
  walk_at "ev"
  refine ⟨_, _, rfl, ?_⟩
  walk_at "ev"
  refine r2_i (cdv_of g2 gz) ?_
  walk_at "ev"
  refine r2_i (cdv_of g2 gz) ?_
  walk_at "ev"
  refine r2_i (cdv_of g2 gz) ?_
  rw [fdiv_p g2, fdiv_p g2, fdiv_p g2]
  have ec : chord (a0, b0, c0) (u, v, t, m) = (fun a b c =>
      if t * (a * a + b * b) - (a * u + b * v - c * m) * (a * u + b * v - c * m) < 0 then []
      else if t * (a * a + b * b) - (a * u + b * v - c * m) * (a * u + b * v - c * m) = 0 then [((u * (a * a + b * b) - (a * u + b * v - c * m) * a, 0, 0, m * (a * a + b * b)), (v * (a * a + b * b) - (a * u + b * v - c * m) * b, 0, 0, m * (a * a + b * b)))]
      else if 0 < b ∨ (b = 0 ∧ a < 0) then
        [((u * (a * a + b * b) - (a * u + b * v - c * m) * a, 0 - b, t * (a * a + b * b) - (a * u + b * v - c * m) * (a * u + b * v - c * m), m * (a * a + b * b)), (v * (a * a + b * b) - (a * u + b * v - c * m) * b, a, t * (a * a + b * b) - (a * u + b * v - c * m) * (a * u + b * v - c * m), m * (a * a + b * b))),
          ((u * (a * a + b * b) - (a * u + b * v - c * m) * a, b, t * (a * a + b * b) - (a * u + b * v - c * m) * (a * u + b * v - c * m), m * (a * a + b * b)), (v * (a * a + b * b) - (a * u + b * v - c * m) * b, 0 - a, t * (a * a + b * b) - (a * u + b * v - c * m) * (a * u + b * v - c * m), m * (a * a + b * b)))]
      else
        [((u * (a * a + b * b) - (a * u + b * v - c * m) * a, b, t * (a * a + b * b) - (a * u + b * v - c * m) * (a * u + b * v - c * m), m * (a * a + b * b)), (v * (a * a + b * b) - (a * u + b * v - c * m) * b, 0 - a, t * (a * a + b * b) - (a * u + b * v - c * m) * (a * u + b * v - c * m), m * (a * a + b * b))),
          ((u * (a * a + b * b) - (a * u + b * v - c * m) * a, 0 - b, t * (a * a + b * b) - (a * u + b * v - c * m) * (a * u + b * v - c * m), m * (a * a + b * b)), (v * (a * a + b * b) - (a * u + b * v - c * m) * b, a, t * (a * a + b * b) - (a * u + b * v - c * m) * (a * u + b * v - c * m), m * (a * a + b * b)))] : Int → Int → Int → List Seat)
      (a0 / common (common a0 b0) c0) (b0 / common (common a0 b0) c0) (c0 / common (common a0 b0) c0) := rfl
  rw [ec]
  generalize a0 / common (common a0 b0) c0 = a at *
  generalize b0 / common (common a0 b0) c0 = b at *
  generalize c0 / common (common a0 b0) c0 = c at *
  clear ec g1 g2 gz d0 hne
  simp only
  walk_at "ev"
  have sn : Sz 8010 (a * u + b * v - c * m) := (((z1.mul s4).add (z2.mul s5)).sub (z3.mul s7)).mono (by decide)
  have sk : Sz 8010 (a * a + b * b) := ((z1.mul z1).add (z2.mul z2)).mono (by decide)
  generalize a * u + b * v - c * m = n at *
  generalize a * a + b * b = k at *
  walk_at "ev"
  generalize t * k - n * n = r at *
  generalize u * k - n * a = x at *
  generalize v * k - n * b = y at *
  generalize m * k = d at *
  refine ⟨fun hb => ?_, fun hb => ?_⟩
  · have hb := of_decide_eq_true hb
    rw [if_pos hb]
    walk_at "ev"
    exact .inl rfl
  · have hb := of_decide_eq_false hb
    rw [if_neg hb]
    walk_at "ev"
    refine ⟨fun hc => ?_, fun hc => ?_⟩
    · have hc := of_decide_eq_true hc
      rw [if_pos hc]
      walk_at "ev"
      exact .inl rfl
    · have hc := of_decide_eq_false hc
      rw [if_neg hc]
      walk_at "ev"
      refine asg_new (Γ' := fun q => _) (fun q => by (simp only [List.set_cons_succ, List.set_cons_zero]); exact rfl) fun q hq => ?_
      walk_at "ev"
      have hmem : (q, Cell.own [seatD ((x, 0 - b, r, d), (y, a, r, d)), seatD ((x, b, r, d), (y, 0 - a, r, d))]) ∈ [(q, Cell.own [seatD ((x, 0 - b, r, d), (y, a, r, d)), seatD ((x, b, r, d), (y, 0 - a, r, d))])] := List.mem_singleton.mpr rfl
      by_cases h1 : 0 < b
      · rw [if_pos (.inl h1)]
        refine brT' (decide_eq_true h1) ?_
        refine brT rfl ?_
        walk_at "ev"
        exact .inr ⟨q, rfl, hmem⟩
      · refine brF' (decide_eq_false h1) ?_
        walk_at "ev"
        by_cases h2 : b = 0
        · refine brT (decide_eq_true h2) ?_
          walk_at "ev"
          by_cases h3 : a < 0
          · rw [if_pos (.inr ⟨h2, h3⟩)]
            refine brT (decide_eq_true h3) ?_
            walk_at "ev"
            exact .inr ⟨q, rfl, hmem⟩
          · rw [if_neg (fun z => z.elim h1 fun z => h3 z.2)]
            refine brF (decide_eq_false h3) ?_
            refine ev_rev ?_
            walk_at "ev"
            exact ⟨_, .inr ⟨q, rfl, .inr hmem⟩, .inl rfl⟩
        · rw [if_neg (fun z => z.elim h1 fun z => h2 z.1)]
          refine brF (decide_eq_false h2) ?_
          refine brF rfl ?_
          refine ev_rev ?_
          walk_at "ev"
          exact ⟨_, .inr ⟨q, rfl, .inr hmem⟩, .inl rfl⟩
theorem ev_chord {B : Bx} {T : Th} {Γ : List Sl} {Q : Sl → Prop} {tl : TA} (h : EvA B T tl Γ fun ss => ∃ (l : T3) (z : T4), ss = [.dat (t3D l), .dat (t4D z)] ∧ ((l.1 ≠ 0 ∨ l.2.1 ≠ 0) ∧ T3S 4000 l ∧ T4S 4000 z) ∧ Q (.new (seatsD (chord l z)))) : EvT B T (tCall (spL B.K S_chord) [] E0 tl) Γ Q :=
  ev_callL fun σ H k o c => h σ H _ o fun vs H' ss o' kp r ⟨l, z, e, ⟨h1, h2, h3⟩, q⟩ => c vs H' ss o' kp r ⟨[t3D l, t4D z], _, e, ⟨l, z, rfl, rfl, h1, h2, h3, rfl⟩, q⟩
def S_meet : List PyData → List PyData → Prop
  | [a, b], es => ∃ c e : Cv, a = cD c ∧ b = cD e ∧ CvOk c ∧ CvOk e ∧ CvS 300 c ∧ CvS 300 e ∧ es = seatsD (meet c e)
  | _, _ => False
theorem CvS.mono {n m : Nat} {c : Cv} (h : CvS n c) (l : n ≤ m) : CvS m c := by
  cases c with
  | line x y z =>
    obtain ⟨q1, q2, q3, q4, q5, q6⟩ := h
    exact ⟨q1.mono l, q2.mono l, q3.mono l, q4.mono l, q5.mono l, q6.mono l⟩
  | circ x y z =>
    obtain ⟨q1, q2, q3, q4, q5, q6⟩ := h
    exact ⟨q1.mono l, q2.mono l, q3.mono l, q4.mono l, q5.mono l, q6.mono l⟩
theorem sc_law_meet : FnScope ["_law_one", "_law_two", "_law_a", "_law_b", "_law_c", "_law_e", "_law_f", "_law_g", "_law_low", "_law_by", "_law_u", "_law_v", "_law_t", "_law_m", "_law_k"] ["_law_one", "_law_two"] (defScope s_law_meet) := ⟨rfl, rfl, rfl, by decide +kernel, rfl, by decide +kernel, by decide +kernel⟩
theorem bd_law_meet : BindsOf "_law_meet" s_law_meet ["_law_one", "_law_two"] := fun _ _ _ _ _ _ us hl => match us, hl with | [_, _], _ => rfl
theorem ok_law_meet (T : Tx K mg) (G_law_ring : Gd P w K mg base 1 "_law_ring" ["_law_curve_here"] (spP K S_ring)) (G_law_bar : Gd P w K mg base 1 "_law_bar" ["_law_curve_here"] (spP K S_bar)) (G_law_chord : Gd P w K mg base 2 "_law_chord" ["_law_bar_here", "_law_ring_here"] (spL K S_chord)) : Gd P w K mg base 3 "_law_meet" ["_law_one", "_law_two"] (spL K S_meet) := by
  refine (T.dfn 46 rfl).gdL sc_law_meet bd_law_meet (fun ds d h => match ds, h with | [_, _], _ => rfl) (by decide) ?_
  intro f cdv A outer s H E hr
  have nd := sc_law_meet.nd
  refine ⟨_, (pss_cons (ps_if (PW.pt (pw_and (pt_cmpR op_eq (pe_ix ix_tup (pv 0) pe_int (fun _ _ => rfl)) pe_str (nomark _)) (pw_and1 (pt_cmpR op_eq (pe_ix ix_tup (pv 1) pe_int (fun _ _ => rfl)) pe_str (nomark _))))) (pss_cons (ps_asg (pe_callG G_law_bar (hr.mono (by decide)) rfl (pa_cons (pv 0) pa_nil)) (pg_tup rfl (pgs_cons (pg_name (i := 2) nd rfl (Or.inl rfl)) (pgs_cons (pg_name (i := 3) nd rfl (Or.inl rfl)) (pgs_cons (pg_name (i := 4) nd rfl (Or.inl rfl)) pgs_nil)))))
      (pss_cons (ps_asg (pe_callG G_law_bar (hr.mono (by decide)) rfl (pa_cons (pv 1) pa_nil)) (pg_tup rfl (pgs_cons (pg_name (i := 5) nd rfl (Or.inl rfl)) (pgs_cons (pg_name (i := 6) nd rfl (Or.inl rfl)) (pgs_cons (pg_name (i := 7) nd rfl (Or.inl rfl)) pgs_nil)))))
      (pss_cons (ps_set (i := 8) nd rfl (Or.inl rfl) (pe_op op_sub (pe_op op_mulW (pv 2) (pv 6)) (pe_op op_mulW (pv 5) (pv 3))))
      (pss_cons (ps_set (i := 9) nd rfl (Or.inl rfl) (pe_ifExp (pt_cmpR op_gt (pv 8) pe_int (nomark _)) pe_int (pe_un un_neg pe_int)))
      (pss_one (ps_ret (pe_ifExp (pt_cmpR op_ne (pv 8) pe_int (nomark _)) (pe_lst (pa_cons (pe_tup (pa_cons (pe_tup (pa_cons (pe_op op_mulW (pv 9) (pe_op op_sub (pe_op op_mulW (pv 4) (pv 6)) (pe_op op_mulW (pv 7) (pv 3)))) (pa_cons pe_int (pa_cons pe_int (pa_cons (pe_op op_mulW (pv 9) (pv 8)) pa_nil))))) (pa_cons (pe_tup (pa_cons (pe_op op_mulW (pv 9) (pe_op op_sub (pe_op op_mulW (pv 2) (pv 7)) (pe_op op_mulW (pv 5) (pv 4)))) (pa_cons pe_int (pa_cons pe_int (pa_cons (pe_op op_mulW (pv 9) (pv 8)) pa_nil))))) pa_nil))) pa_nil)) (pe_lst pa_nil)))))))) pss_nil)
      (pss_cons (ps_if (pt_cmpR op_eq (pe_ix ix_tup (pv 0) pe_int (fun _ _ => rfl)) pe_str (nomark _)) (pss_one (ps_ret (pe_callG G_law_chord hr rfl (pa_cons (pe_callG G_law_bar (hr.mono (by decide)) rfl (pa_cons (pv 0) pa_nil)) (pa_cons (pe_callG G_law_ring (hr.mono (by decide)) rfl (pa_cons (pv 1) pa_nil)) pa_nil))))) pss_nil)
      (pss_cons (ps_if (pt_cmpR op_eq (pe_ix ix_tup (pv 1) pe_int (fun _ _ => rfl)) pe_str (nomark _)) (pss_one (ps_ret (pe_callG G_law_chord hr rfl (pa_cons (pe_callG G_law_bar (hr.mono (by decide)) rfl (pa_cons (pv 1) pa_nil)) (pa_cons (pe_callG G_law_ring (hr.mono (by decide)) rfl (pa_cons (pv 0) pa_nil)) pa_nil))))) pss_nil)
      (pss_cons (ps_asg (pe_callG G_law_ring (hr.mono (by decide)) rfl (pa_cons (pv 0) pa_nil)) (pg_tup rfl (pgs_cons (pg_name (i := 10) nd rfl (Or.inl rfl)) (pgs_cons (pg_name (i := 11) nd rfl (Or.inl rfl)) (pgs_cons (pg_name (i := 12) nd rfl (Or.inl rfl)) (pgs_cons (pg_name (i := 13) nd rfl (Or.inl rfl)) pgs_nil))))))
      (pss_cons (ps_asg (pe_callG G_law_ring (hr.mono (by decide)) rfl (pa_cons (pv 1) pa_nil)) (pg_tup rfl (pgs_cons (pg_name (i := 5) nd rfl (Or.inl rfl)) (pgs_cons (pg_name (i := 6) nd rfl (Or.inl rfl)) (pgs_cons (pg_name (i := 7) nd rfl (Or.inl rfl)) (pgs_cons (pg_name (i := 14) nd rfl (Or.inl rfl)) pgs_nil))))))
      (pss_cons (ps_par (i := 2) (j := 3) (by rfl) nd rfl rfl (by decide) rfl rfl (pa_cons (pe_op op_mulW (pe_op op_mulW (pe_op op_mulW pe_int (pe_op op_sub (pe_op op_mulW (pv 5) (pv 13)) (pe_op op_mulW (pv 10) (pv 14)))) (pv 13)) (pv 14)) (pa_cons (pe_op op_mulW (pe_op op_mulW (pe_op op_mulW pe_int (pe_op op_sub (pe_op op_mulW (pv 6) (pv 13)) (pe_op op_mulW (pv 11) (pv 14)))) (pv 13)) (pv 14)) pa_nil)) (by rfl))
      (pss_cons (ps_set (i := 4) nd rfl (Or.inl rfl) (pe_op op_sub (pe_op op_mulW (pe_op op_mulW (pe_op op_sub (pe_op op_add (pe_op op_mulW (pv 5) (pv 5)) (pe_op op_mulW (pv 6) (pv 6))) (pv 7)) (pv 13)) (pv 13)) (pe_op op_mulW (pe_op op_mulW (pe_op op_sub (pe_op op_add (pe_op op_mulW (pv 10) (pv 10)) (pe_op op_mulW (pv 11) (pv 11))) (pv 12)) (pv 14)) (pv 14))))
      (pss_one (ps_ret (pe_ifExp (PW.pt (pw_or (pt_cmpR op_ne (pv 2) pe_int (nomark _)) (pw_or1 (pt_cmpR op_ne (pv 3) pe_int (nomark _))))) (pe_callG G_law_chord hr rfl (pa_cons (pe_tup (pa_cons (pv 2) (pa_cons (pv 3) (pa_cons (pv 4) pa_nil)))) (pa_cons (pe_tup (pa_cons (pv 10) (pa_cons (pv 11) (pa_cons (pv 12) (pa_cons (pv 13) pa_nil))))) pa_nil))) (pe_lst pa_nil))))))))))), ?_⟩
  try simp only [cxK, cxN]
  intro ds es h
  rcases ds with _ | ⟨a, _ | ⟨b, _ | ⟨z, zs⟩⟩⟩ <;> (try exact h.elim)
  change EvS _ _ _ [Sl.dat _, Sl.dat _, Sl.no, Sl.no, Sl.no, Sl.no, Sl.no, Sl.no, Sl.no, Sl.no, Sl.no, Sl.no, Sl.no, Sl.no, Sl.no] _ _
  obtain ⟨c, e, rfl, rfl, hc, he, sc, se, rfl⟩ := h
  have sc4 := sc.mono (m := 4000) (by decide)
  have se4 := se.mono (m := 4000) (by decide)
  cases c with
  | line x y z =>
    cases e with
    | line x' y' z' =>
      obtain ⟨b1, b2, b3⟩ := bar_s sc
      obtain ⟨b4, b5, b6⟩ := bar_s se
      walk_at "ev"
      refine brT rfl ?_
      walk_at "ev"
      refine brT rfl ?_
      walk_at "ev"
      refine ev_bar ?_
      walk_at "ev"
      refine ⟨x, y, z, rfl, sc4, ?_⟩
      walk_at "ev"
      refine ev_bar ?_
      walk_at "ev"
      refine ⟨x', y', z', rfl, se4, ?_⟩
      have em : meet (.line x y z) (.line x' y' z') = crossLL (bar x y z) (bar x' y' z') := rfl
      rw [em]
      generalize bar x y z = l at *
      generalize bar x' y' z' = l' at *
      obtain ⟨a, b, c⟩ := l
      obtain ⟨a', b', c'⟩ := l'
      simp only at *
      walk_at "ev"
      unfold crossLL
      simp only
      by_cases hp : 0 < a * b' - a' * b
      · refine brT (decide_eq_true hp) ?_
        rw [if_pos hp, if_pos (by omega)]
        walk_at "ev"
        refine brT (by rw [decide_eq_false (by omega)]; rfl) ?_
        walk_at "ev"
        exact .inl rfl
      · refine brF (decide_eq_false hp) ?_
        rw [if_neg hp]
        walk_at "ev"
        by_cases hz : a * b' - a' * b = 0
        · refine brF (by rw [decide_eq_true hz]; rfl) ?_
          rw [if_neg (fun z => z hz)]
          walk_at "ev"
          exact .inl rfl
        · refine brT (by rw [decide_eq_false hz]; rfl) ?_
          rw [if_pos hz]
          walk_at "ev"
          exact .inl rfl
    | circ x' y' z' =>
      obtain ⟨b1, b2, b3⟩ := bar_s sc
      obtain ⟨b4, b5, b6, b7⟩ := ring_s se
      walk_at "ev"
      refine brT rfl ?_
      walk_at "ev"
      refine brF rfl ?_
      walk_at "ev"
      refine brT rfl ?_
      walk_at "ev"
      refine ev_chord ?_
      walk_at "ev"
      refine ev_bar ?_
      walk_at "ev"
      refine ⟨x, y, z, rfl, sc4, ?_⟩
      walk_at "ev"
      refine ev_ring ?_
      walk_at "ev"
      refine ⟨x', y', z', rfl, se4, ?_⟩
      walk_at "ev"
      exact ⟨_, _, rfl, ⟨bar_ne hc, ⟨b1.mono (by decide), b2.mono (by decide), b3.mono (by decide)⟩, ⟨b4.mono (by decide), b5.mono (by decide), b6.mono (by decide), b7.mono (by decide)⟩⟩, .inl rfl⟩
  | circ x y z =>
    cases e with
    | line x' y' z' =>
      obtain ⟨b1, b2, b3⟩ := bar_s se
      obtain ⟨b4, b5, b6, b7⟩ := ring_s sc
      walk_at "ev"
      refine brF rfl ?_
      refine brF rfl ?_
      walk_at "ev"
      refine brF rfl ?_
      walk_at "ev"
      refine brT rfl ?_
      walk_at "ev"
      refine ev_chord ?_
      walk_at "ev"
      refine ev_bar ?_
      walk_at "ev"
      refine ⟨x', y', z', rfl, se4, ?_⟩
      walk_at "ev"
      refine ev_ring ?_
      walk_at "ev"
      refine ⟨x, y, z, rfl, sc4, ?_⟩
      walk_at "ev"
      exact ⟨_, _, rfl, ⟨bar_ne he, ⟨b1.mono (by decide), b2.mono (by decide), b3.mono (by decide)⟩, ⟨b4.mono (by decide), b5.mono (by decide), b6.mono (by decide), b7.mono (by decide)⟩⟩, .inl rfl⟩
    | circ x' y' z' =>
      obtain ⟨b1, b2, b3, b4⟩ := ring_s sc
      obtain ⟨b5, b6, b7, b8⟩ := ring_s se
      walk_at "ev"
      refine brF rfl ?_
      refine brF rfl ?_
      walk_at "ev"
      refine brF rfl ?_
      walk_at "ev"
      refine brF rfl ?_
      walk_at "ev"
      refine ev_ring ?_
      walk_at "ev"
      refine ⟨x, y, z, rfl, sc4, ?_⟩
      walk_at "ev"
      refine ev_ring ?_
      walk_at "ev"
      refine ⟨x', y', z', rfl, se4, ?_⟩
      have em : meet (.circ x y z) (.circ x' y' z') = if (axis (ring x y z) (ring x' y' z')).1 ≠ 0 ∨ (axis (ring x y z) (ring x' y' z')).2.1 ≠ 0 then chord (axis (ring x y z) (ring x' y' z')) (ring x y z) else [] := rfl
      rw [em]
      generalize ring x y z = l at *
      generalize ring x' y' z' = l' at *
      obtain ⟨u, v, t, m⟩ := l
      obtain ⟨u', v', t', m'⟩ := l'
      simp only at *
      walk_at "ev"
      have ea : axis (u, v, t, m) (u', v', t', m') = (2 * (u' * m - u * m') * m * m', 2 * (v' * m - v * m') * m * m', (u' * u' + v' * v' - t') * m * m - (u * u + v * v - t) * m' * m') := rfl
      have z1 : Sz 4000 (2 * (u' * m - u * m') * m * m') := (((sz_2.mul ((b5.mul b4).sub (b1.mul b8))).mul b4).mul b8).mono (by decide)
      have z2 : Sz 4000 (2 * (v' * m - v * m') * m * m') := (((sz_2.mul ((b6.mul b4).sub (b2.mul b8))).mul b4).mul b8).mono (by decide)
      have z3 : Sz 4000 ((u' * u' + v' * v' - t') * m * m - (u * u + v * v - t) * m' * m') := ((((((b5.mul b5).add (b6.mul b6)).sub b7).mul b4).mul b4).sub (((((b1.mul b1).add (b2.mul b2)).sub b3).mul b8).mul b8)).mono (by decide)
      have zr : T4S 4000 (u, v, t, m) := ⟨b1.mono (by decide), b2.mono (by decide), b3.mono (by decide), b4.mono (by decide)⟩
      rw [ea]
      generalize 2 * (u' * m - u * m') * m * m' = a at *
      generalize 2 * (v' * m - v * m') * m * m' = b at *
      generalize (u' * u' + v' * v' - t') * m * m - (u * u + v * v - t) * m' * m' = c at *
      simp only
      by_cases ha : a = 0
      · refine brF' (by rw [decide_eq_true ha]; rfl) ?_
        walk_at "ev"
        by_cases hb : b = 0
        · refine brF (by rw [decide_eq_true hb]; rfl) ?_
          rw [if_neg (fun z => z.elim (fun z => z ha) fun z => z hb)]
          walk_at "ev"
          exact .inl rfl
        · refine brT (by rw [decide_eq_false hb]; rfl) ?_
          rw [if_pos (.inr hb)]
          refine ev_chord ?_
          walk_at "ev"
          exact ⟨(a, b, c), (u, v, t, m), rfl, ⟨.inr hb, ⟨z1, z2, z3⟩, zr⟩, .inl rfl⟩
      · refine brT' (by rw [decide_eq_false ha]; rfl) ?_
        refine ⟨fun _ => ?_, fun z => by cases z⟩
        rw [if_pos (.inl ha)]
        refine ev_chord ?_
        walk_at "ev"
        exact ⟨(a, b, c), (u, v, t, m), rfl, ⟨.inl ha, ⟨z1, z2, z3⟩, zr⟩, .inl rfl⟩
theorem ev_meet {B : Bx} {T : Th} {Γ : List Sl} {Q : Sl → Prop} {tl : TA} (h : EvA B T tl Γ fun ss => ∃ c e : Cv, ss = [.dat (cD c), .dat (cD e)] ∧ (CvOk c ∧ CvOk e ∧ CvS 300 c ∧ CvS 300 e) ∧ Q (.new (seatsD (meet c e)))) : EvT B T (tCall (spL B.K S_meet) [] E0 tl) Γ Q :=
  ev_callL fun σ H k o c => h σ H _ o fun vs H' ss o' kp r ⟨l, z, e, ⟨h1, h2, h3, h4⟩, q⟩ => c vs H' ss o' kp r ⟨[cD l, cD z], _, e, ⟨l, z, rfl, rfl, h1, h2, h3, h4, rfl⟩, q⟩
end
end Pl
end
section
set_option Elab.async false
set_option linter.all false
set_option maxRecDepth 100000
set_option autoImplicit false
set_option maxHeartbeats 1000000
/-! the law's draws -/
namespace Pl
open PySem PySem.Spec PyProof.Rows L2
local macro_rules | `(tactic| walk_at "ev1") => `(tactic| first
  | with_reducible refine ev_var rfl ?_
  | with_reducible refine ev_ref rfl ?_
  | with_reducible refine ev_int ?_
  | with_reducible refine ev_str ?_
  | with_reducible refine ev_bl ?_
  | with_reducible refine ev_ty ?_
  | with_reducible refine ev_op ?_
  | with_reducible refine ev_un ?_
  | with_reducible refine ev_if ?_
  | with_reducible refine ev_tup ?_
  | with_reducible refine ev_lst ?_
  | with_reducible refine ev_cb ?_
  | with_reducible refine ev_andV ?_
  | with_reducible refine ev_orV ?_
  | with_reducible refine ev_notV ?_
  | with_reducible refine ec_val ?_
  | with_reducible refine ec_test ?_
  | with_reducible refine ec_not ?_
  | with_reducible refine ec_and ?_
  | with_reducible refine ec_or ?_
  | with_reducible refine ea_nil ?_
  | with_reducible refine ea_cons ?_
  | with_reducible refine es_seq ?_
  | with_reducible refine es_drop ?_
  | with_reducible refine es_ret ?_
  | with_reducible refine es_if ?_
  | with_reducible refine es_asg ?_
  | with_reducible refine es_asgG ?_
  | with_reducible refine es_par ?_
  | with_reducible refine es_par3 ?_
  | with_reducible refine es_next ?_
  | with_reducible refine eg_name (by (simp only [List.set_cons_succ, List.set_cons_zero]); exact rfl) ?_
  | with_reducible refine par_q (by (simp only [List.set_cons_succ, List.set_cons_zero]); exact rfl) ?_
  | with_reducible refine par_q3 (by (simp only [List.set_cons_succ, List.set_cons_zero]); exact rfl) ?_
  | with_reducible refine asg_dat (by (simp only [List.set_cons_succ, List.set_cons_zero]); exact rfl) ?_
  | with_reducible refine asg_ref (by (simp only [List.set_cons_succ, List.set_cons_zero]); exact rfl) ?_
  | with_reducible refine eg_tup rfl ?_
  | with_reducible refine eg_cons ?_
  | with_reducible refine eg_nil ?_
  | with_reducible refine tup_q2 ?_
  | with_reducible refine tup_q3 ?_
  | with_reducible refine tup_q4 ?_
  | with_reducible refine tup_q5 ?_
  | with_reducible refine tup_q8 ?_
  | with_reducible refine tup_q11 ?_
  | with_reducible refine tup_q0 ?_
  | with_reducible refine tup_q1 ?_
  | with_reducible refine tst ?_
  | with_reducible refine tun ?_
  | with_reducible refine r2_ix rfl ?_
  | with_reducible refine r2_i0 ?_
  | with_reducible refine r2_b0 ?_
  | with_reducible refine r2_eqI ?_
  | with_reducible refine r2_neI ?_
  | with_reducible refine r2_eqS ?_
  | with_reducible refine r2_neS ?_
  | with_reducible refine r2_subB ?_
  | with_reducible refine cb_gcd ?_
  | with_reducible refine cb_abs ?_
  | with_reducible refine cb_int ?_
  | with_reducible refine cb_lenT ?_)
local macro_rules | `(tactic| walk_at "sz") => `(tactic| first
  | assumption
  | with_reducible exact sz_0
  | with_reducible exact sz_1
  | with_reducible exact sz_2
  | with_reducible exact sz_4
  | with_reducible exact sz_m1
  | with_reducible exact Sz.mul (by walk_at "sz") (by walk_at "sz")
  | with_reducible exact Sz.add (by walk_at "sz") (by walk_at "sz")
  | with_reducible exact Sz.sub (by walk_at "sz") (by walk_at "sz")
  | with_reducible exact Sz.neg (by walk_at "sz"))
local macro_rules | `(tactic| walk_at "mulok") => `(tactic| first
  | assumption
  | exact mulok (by walk_at "sz") (by walk_at "sz") (by decide))
local macro_rules | `(tactic| walk_at "ev1") => `(tactic| (refine r2_i (C := CMulW) ?_ ?_; walk_at "mulok"))
local macro_rules | `(tactic| walk_at "ev") => `(tactic| repeat walk_at "ev1")
section
variable {P : Program} {w : World} {K : PySem.W.Frag} {mg : Str → Option Value} {base : Heap}
def S_draw : List PyData → (PyData → Prop) → Prop
  | [a], P => ∃ m : Int, a = .int m ∧ 0 < m ∧ m ≤ 100000 ∧ P = fun d => ∃ n : Int, d = .int n ∧ 0 ≤ n ∧ n < m
  | _, _ => False
theorem keep_well {H : Hp} {v : Addr} {o : HO} {As : List Addr} (h : v ∈ As) : KeepA As H (upd H v o) := fun b x n e => by
  rw [upd_ne (fun z => n (by rw [z]; exact h))]
  exact e
section
variable {B : Bx} {T : Th} {Γ : List Sl} {Q : Sl → Prop} {N : List Sl → Th → Prop} {R : Sl → Th → Prop} {te : TE} {v : Addr} {i : Nat}
/-- the well's c-th number -/
theorem r2_ixW (c : Nat) (hm : v ∈ B.As) (hc : c < 3) (q : ∀ n : Int, Q (.dat (.int n))) : R2k B T (rIxL B.K) (.ref v) (.dat (.int (c : Int))) Q := fun x y H k t rx ry cc => by
  obtain ⟨a, b, d, e⟩ := t.cells _ (t.as v hm)
  have hn : ∃ n : Int, ([V.int a, V.int b, V.int d])[c]? = some (.int n) := by
    match c, hc with
    | 0, _ => exact ⟨_, rfl⟩
    | 1, _ => exact ⟨_, rfl⟩
    | 2, _ => exact ⟨_, rfl⟩
  obtain ⟨n, hn⟩ := hn
  exact ⟨v, _, _, _, rx, ry.int_inv, .inl (.inl e), atI_nat hn, cc _ H _ t Kp.refl (rvI n) (q n)⟩
theorem well_set {H : Hp} {a b d n : Int} {c : Nat} : WellAt (upd H v (.lst ([V.int a, .int b, .int d].set c (.int n)))) v := by
  match c with
  | 0 => exact ⟨n, b, d, upd_same⟩
  | 1 => exact ⟨a, n, d, upd_same⟩
  | 2 => exact ⟨a, b, n, upd_same⟩
  | _ + 3 => exact ⟨a, b, d, upd_same⟩
theorem g_setW {c : Nat} {n : Int} {σ : L2.St} {H : Hp} {k : L2.St → Hp → Prop} (o : Ok B T σ H Γ) (hv : Γ[i]? = some (Sl.ref v)) (hm : v ∈ B.As) (hc : c < 3) (q : ∀ H', Ok B T σ H' Γ → Kp T H H' → k σ H') : gSub (tVar i) (tC (.int (c : Int))) rSetL (.int n) σ H k := by
  obtain ⟨a, b, d, e⟩ := o.t.cells _ (o.t.as v hm)
  have hT := o.t.as v hm
  have kk : KeepA [v] H (upd H v (.lst ([V.int a, .int b, .int d].set c (.int n)))) := keep_well (List.mem_singleton.mpr rfl)
  refine ⟨_, o.s.ref i v hv, v, _, _, c, rfl, rfl, e, ?_, ?_⟩
  · unfold ixN
    rw [if_pos (by omega), if_pos (show (c : Int) < ([V.int a, V.int b, V.int d].length : Int) by simp; omega)]
    rfl
  · exact q _ (o.kp (o.t.turned hT hm kk well_set) (Kp.turned hT kk)) (Kp.turned hT kk)
theorem es_setW {c : Nat} (hv : Γ[i]? = some (Sl.ref v)) (hm : v ∈ B.As) (hc : c < 3) (h : EvT B T te Γ fun s => ∃ n, s = .dat (.int n) ∧ N Γ T) : EvS B T (tAsg te (gSub (tVar i) (tC (.int (c : Int))) rSetL)) Γ N R := fun σ H D o c1 c2 => h σ H _ o fun x H' s o' kp r ⟨n, e, q⟩ => by
  subst e
  cases r.int_inv
  exact g_setW o' hv hm hc fun H2 o2 _ => c1 _ _ _ _ o2 q
theorem es_setW2 {c j : Nat} (hv : Γ[i]? = some (Sl.ref v)) (hm : v ∈ B.As) (hc : c < 3) (h : EvT B T te Γ fun s => ∃ n m : Int, s = .dat (.tuple [.int n, .int m]) ∧ N (Γ.set j (.dat (.int m))) T) : EvS B T (tAsg te (gTup B.K 2 (gCons (gSub (tVar i) (tC (.int (c : Int))) rSetL) (gCons (gName j) gNil)))) Γ N R := fun σ H D o c1 c2 => h σ H _ o fun x H' s o' kp r ⟨n, m, e, q⟩ => by
  subst e
  obtain ⟨a, xs, rfl, hs, ra⟩ := r.tup_inv
  cases ra with
  | cons r1 r2 =>
    cases r1
    cases r2 with
    | cons r2 r3 =>
      cases r2
      cases r3
      refine ⟨a, _, rfl, hs, rfl, _, _, rfl, g_setW o' hv hm hc fun H2 o2 k2 => ?_⟩
      exact ⟨_, _, rfl, rfl, c1 _ _ _ _ ⟨o2.t, o2.s.set (.int m)⟩ q⟩
abbrev rDivmod : List V → Hp → VK → Prop := fun xs H Q => ∃ i j, xs = [.int i, .int j] ∧ CDiv i j ∧ ∀ p, H p = none → Q (.ref p) (upd H p (.tup [.int (i / j), .int (i % j)]))
theorem cb_divmod {i j : Int} (h : CDiv i j) (q : Q (.dat (.tuple [.int (i / j), .int (i % j)]))) : CBk B T rDivmod [.dat (.int i), .dat (.int j)] Q := fun xs H k t r c => by
  obtain ⟨x, y, rfl, r1, r2⟩ := r.two
  refine ⟨i, j, by rw [r1.int_inv, r2.int_inv], h, fun p hp => ?_⟩
  have k2 : Kp T H (upd H p (.tup [.int (i / j), .int (i % j)])) := Kp.new hp
  exact c _ _ _ (t.laid hp) k2 (rvD <| .tup (.inl (.inl upd_same)) (.cons (.int _) (.cons (.int _) .nil))) q
/-- an item at some place -/
theorem r2_ixA {ds : List PyData} {i : Int} (h0 : 0 ≤ i) (h1 : i < ds.length) (q : ∀ d, d ∈ ds → Q (.dat d)) : R2k B T (rIxT B.K) (.dat (.tuple ds)) (.dat (.int i)) Q := by
  have hl : i.toNat < ds.length := by omega
  refine r2_ix (d := ds[i.toNat]) ?_ (q _ (List.getElem_mem hl))
  unfold atI ixN
  rw [if_pos h0, if_pos h1]
  exact List.getElem?_eq_getElem hl
theorem r2_ixS {ds : List PyData} {i : Int} (h0 : 0 ≤ i) (h1 : i < ds.length) (q : ∀ d, d ∈ ds → Q (.dat d)) : R2k B T (rIx B.K) (.dat (.tuple ds)) (.dat (.int i)) Q := fun x y H k t rx ry c => .inr (.inl (r2_ixA h0 h1 q x y H k t rx ry c))
theorem r2_ixSL {a : Addr} {ds : List PyData} {i : Int} (hm : (a, Cell.lst ds) ∈ T) (h0 : 0 ≤ i) (h1 : i < ds.length) (q : ∀ d, d ∈ ds → Q (.dat d)) : R2k B T (rIx B.K) (.ref a) (.dat (.int i)) Q := fun x y H k t rx ry c => by
  have hl : i.toNat < ds.length := by omega
  refine .inl (r2_ixL (d := ds[i.toNat]) hm (.inl rfl) ?_ (q _ (List.getElem_mem hl)) x y H k t rx ry c)
  unfold atI ixN
  rw [if_pos h0, if_pos h1]
  exact List.getElem?_eq_getElem hl
end
theorem mulok_l {i j : Int} (h1 : -(2 ^ 64) < i) (h2 : i < 2 ^ 64) (h3 : -(2 ^ 64) < j) (h4 : j < 2 ^ 64) : CMulW i j := by
  refine mulok (a := 65) (b := 65) ?_ ?_ (by decide)
  · unfold Sz
    omega
  · unfold Sz
    omega
theorem op_mulL {i j : Int} (h1 : -(2 ^ 64) < i) (h2 : i < 2 ^ 64) : IntMulOk i j := .of_left (intBits_le_64 h1 h2)
theorem cmd_n {i j : Int} (h : j ≠ 0) : CMd i j := h
theorem fmod_p {i j : Int} (hj : 0 < j) : i.fmod j = i % j := Int.fmod_eq_emod_of_nonneg _ (Int.le_of_lt hj)
theorem cdv_n {i j : Int} (h0 : 0 < j) (h1 : j < 1073741824) : CDv i j := ⟨by omega, PyProof.noPylong_small (by omega)⟩
theorem sc_law_draw : FnScope ["_law_well_here", "_law_many", "_law_figure", "_law_seed"] ["_law_well_here", "_law_many"] (defScope s_law_draw) := ⟨rfl, rfl, rfl, by decide +kernel, rfl, by decide +kernel, by decide +kernel⟩
theorem bd_law_draw : BindsOf "_law_draw" s_law_draw ["_law_well_here", "_law_many"] := fun _ _ _ _ _ _ us hl => match us, hl with | [_, _], _ => rfl
theorem ok_law_draw (T : Tx K mg)  : Gd P w K mg base 1 "_law_draw" ["_law_well_here", "_law_many"] (spW K S_draw) := by
  refine (T.dfn 25 rfl).gdW (n := 1) sc_law_draw bd_law_draw (fun ds d h => match ds, h with | [_], _ => rfl) rfl (by decide) ?_
  intro f cdv A outer s H E hr
  have nd := sc_law_draw.nd
  refine ⟨_, (pss_cons (ps_if (pt_cmpR op_gt (pe_ix ix_list (pv 0) pe_int (fun _ _ => rfl)) pe_int (nomark _)) (pss_cons (ps_asg (pe_callB call_divmod (by rfl) (T.free "divmod") (by decide +kernel) (pa_cons (pe_ix ix_list (pv 0) pe_int (fun _ _ => rfl)) (pa_cons (pv 1) pa_nil))) (pg_tup rfl (pgs_cons (pg_sub (pv 0) pe_int set_list) (pgs_cons (pg_name (i := 2) nd rfl (Or.inl rfl)) pgs_nil))))
      (pss_one (ps_ret (pv 2)))) pss_nil)
      (pss_cons (ps_asg (pe_op op_add (pe_ix ix_list (pv 0) pe_int (fun _ _ => rfl)) pe_int) (pg_sub (pv 0) pe_int set_list))
      (pss_cons (ps_set (i := 3) nd rfl (Or.inl rfl) (pe_op op_md (pe_callTy call_int1 (by rfl) (T.free "int") (by decide +kernel) (pa_cons (pe_op op_add (pe_ix ix_list (pv 0) pe_int (fun _ _ => rfl)) (pe_op op_mul pe_int (pe_ix ix_list (pv 0) pe_int (fun _ _ => rfl)))) pa_nil)) pe_int))
      (pss_cons (ps_asg (pe_op op_md (pe_callTy call_int1 (by rfl) (T.free "int") (by decide +kernel) (pa_cons (pe_op op_add (pe_op op_mul (pv 3) (pe_op op_add (pe_op op_md (pe_callTy call_int1 (by rfl) (T.free "int") (by decide +kernel) (pa_cons (pv 3) pa_nil)) pe_int) pe_int)) (pe_op op_mul pe_int (pe_ix ix_list (pv 0) pe_int (fun _ _ => rfl)))) pa_nil)) pe_int) (pg_sub (pv 0) pe_int set_list))
      (pss_one (ps_ret (pe_op op_md (pe_callTy call_int1 (by rfl) (T.free "int") (by decide +kernel) (pa_cons (pe_op op_fdv (pe_ix ix_list (pv 0) pe_int (fun _ _ => rfl)) pe_int) pa_nil)) (pv 1)))))))), ?_⟩
  try simp only [cxK, cxN]
  intro v ds Pd h
  rcases ds with _ | ⟨a, _ | ⟨z, zs⟩⟩ <;> (try exact h.elim)
  change EvS _ _ _ [Sl.ref v, Sl.dat _, Sl.no, Sl.no] _ _
  obtain ⟨m, rfl, hm0, hm1, rfl⟩ := h
  have hv : v ∈ (⟨K, [v], H⟩ : Bx).As := List.mem_singleton.mpr rfl
  walk_at "ev"
  refine r2_ixW 0 hv (by decide) fun n0 => ?_
  walk_at "ev"
  refine ⟨fun _ => ?_, fun _ => ?_⟩
  · refine es_seq (es_setW2 (c := 0) (j := 2) rfl hv (by decide) ?_)
    walk_at "ev"
    refine r2_ixW 0 hv (by decide) fun n1 => ?_
    walk_at "ev"
    refine cb_divmod ⟨hm0, by omega⟩ ?_
    refine ⟨_, _, rfl, ?_⟩
    simp only [List.set_cons_succ, List.set_cons_zero]
    walk_at "ev"
    exact ⟨_, rfl, _, rfl, Int.emod_nonneg _ (by omega), Int.emod_lt_of_pos _ hm0⟩
  · refine es_next ?_
    refine es_seq (es_setW (c := 2) rfl hv (by decide) ?_)
    walk_at "ev"
    refine r2_ixW 2 hv (by decide) fun n1 => ?_
    walk_at "ev"
    refine r2_ixW 1 hv (by decide) fun n2 => ?_
    walk_at "ev"
    refine r2_ixW 2 hv (by decide) fun n3 => ?_
    refine r2_i (C := CMul) (.inl (by decide)) ?_
    walk_at "ev"
    refine r2_i (C := CMd) (cmd_n (by decide)) ?_
    rw [fmod_p (by decide)]
    have s1 : 0 ≤ (n2 + 60029 * n3) % 2147483579 := Int.emod_nonneg _ (by decide)
    have s2 : (n2 + 60029 * n3) % 2147483579 < 2147483579 := Int.emod_lt_of_pos _ (by decide)
    generalize (n2 + 60029 * n3) % 2147483579 = seed at *
    refine asg_dat rfl ?_
    simp only [List.set_cons_succ, List.set_cons_zero]
    refine es_seq (es_setW (c := 1) rfl hv (by decide) ?_)
    walk_at "ev"
    refine r2_i (C := CMd) (cmd_n (by decide)) ?_
    walk_at "ev"
    refine r2_i (C := CMul) (.inl (by omega)) ?_
    walk_at "ev"
    refine r2_ixW 2 hv (by decide) fun n4 => ?_
    refine r2_i (C := CMul) (.inl (by decide)) ?_
    walk_at "ev"
    refine r2_i (C := CMd) (cmd_n (by decide)) ?_
    walk_at "ev"
    refine r2_ixW 1 hv (by decide) fun n5 => ?_
    walk_at "ev"
    refine r2_i (cdv_n (by decide) (by decide)) ?_
    walk_at "ev"
    refine r2_i (C := CMd) (show CMd _ m from (by show m ≠ 0; omega)) ?_
    rw [fmod_p hm0]
    exact ⟨_, rfl, _, rfl, Int.emod_nonneg _ (by omega), Int.emod_lt_of_pos _ hm0⟩
theorem ev_draw {B : Bx} {T : Th} {Γ : List Sl} {Q : Sl → Prop} {tl : TA} (h : EvA B T tl Γ fun ss => ∃ v m, ss = [.ref v, .dat (.int m)] ∧ (v ∈ B.As ∧ 0 < m ∧ m ≤ 100000) ∧ ∀ n : Int, 0 ≤ n → n < m → Q (.dat (.int n))) : EvT B T (tCall (spW B.K S_draw) [] E0 tl) Γ Q :=
  ev_callW fun σ H k o c => h σ H _ o fun vs H' ss o' kp r ⟨v, m, e, ⟨h1, h2, h3⟩, q⟩ => c vs H' ss o' kp r ⟨v, [.int m], _, e, h1, ⟨m, rfl, h2, h3, rfl⟩, fun d ⟨n, e, a, b⟩ => by subst e; exact q n a b⟩
/-- one of a tuple, or of a list -/
def spPick (K : PySem.W.Frag) : Sp := fun vs H Q _ => ∃ v x ds, vs = [.ref v, x] ∧ WellAt H v ∧ 0 < ds.length ∧ ds.length ≤ 1000 ∧ (Rp K H x (.tuple ds) ∨ ∃ a xs, x = .ref a ∧ v ≠ a ∧ H a = some (.lst xs) ∧ RpAll K H xs ds) ∧
  ∀ u H' d, KeepA [v] H H' → WellAt H' v → Rp K H' u d → d ∈ ds → Q u H'
theorem len_law_pick {K : PySem.W.Frag} {vs : List V} {H : Hp} {Q : VK} {E : XK} (h : spPick K vs H Q E) : vs.length = 2 := by
  obtain ⟨v, x, ds, rfl, _⟩ := h
  rfl
theorem sc_law_pick : FnScope ["_law_well_here", "_law_some"] ["_law_well_here", "_law_some"] (defScope s_law_pick) := ⟨rfl, rfl, rfl, by decide +kernel, rfl, by decide +kernel, by decide +kernel⟩
theorem bd_law_pick : BindsOf "_law_pick" s_law_pick ["_law_well_here", "_law_some"] := fun _ _ _ _ _ _ us hl => match us, hl with | [_, _], _ => rfl
theorem ok_law_pick (T : Tx K mg) (G_law_draw : Gd P w K mg base 1 "_law_draw" ["_law_well_here", "_law_many"] (spW K S_draw)) : Gd P w K mg base 2 "_law_pick" ["_law_well_here", "_law_some"] (spPick K) := by
  refine (T.dfn 26 rfl).gd sc_law_pick bd_law_pick (fun vs H Q E h => len_law_pick h) ?_
  intro f cdv A outer s H E hr
  have nd := sc_law_pick.nd
  refine ⟨_, (pss_one (ps_ret (pe_ix ix_seq (pv 1) (pe_callG G_law_draw hr rfl (pa_cons (pv 0) (pa_cons (pe_callB call_len (by rfl) (T.free "len") (by decide +kernel) (pa_cons (pv 1) pa_nil)) pa_nil))) (fun _ _ => rfl)))), ?_⟩
  try simp only [cxK, cxN]
  intro vs Q h
  obtain ⟨v, x, ds, rfl, hw, h0, h1, hx, q⟩ := h
  rcases hx with hx | ⟨a, xs, rfl, ne, hx, rx⟩
  · refine body_W (K := K) (S := fun es P => es = [.tuple ds] ∧ P = fun d => d ∈ ds) (n := 1) (vs := [.ref v, x]) (E := E0) (by decide) ⟨v, [x], [.tuple ds], _, rfl, hw, .cons hx .nil, ⟨rfl, rfl⟩, fun u H' d k1 k2 k3 k4 => q u H' d k1 k2 k3 k4⟩ (fun es P h => by rw [h.1]; rfl) ?_
    intro v es P ⟨e1, e2⟩
    subst e1 e2
    change EvS _ _ _ [Sl.ref v, Sl.dat (.tuple ds)] _ _
    have hv : v ∈ (⟨K, [v], H⟩ : Bx).As := List.mem_singleton.mpr rfl
    walk_at "ev"
    refine ev_draw ?_
    walk_at "ev"
    refine ⟨_, _, rfl, ⟨hv, by omega, by omega⟩, fun n n0 n1 => ?_⟩
    refine r2_ixS n0 n1 fun d hd => ?_
    exact ⟨d, rfl, hd⟩
  · refine body_WL (K := K) (S := fun es P => es = ds ∧ P = fun d => d ∈ ds) (vs := [.ref v, .ref a]) (E := E0) (by decide) ⟨v, a, xs, ds, _, rfl, ne, hw, hx, rx, ⟨rfl, rfl⟩, fun u H' d k1 k2 k3 k4 => q u H' d k1 k2 k3 k4⟩ ?_
    intro v a es P ⟨e1, e2⟩
    subst e1 e2
    change EvS _ _ _ [Sl.ref v, Sl.ref a] _ _
    have hv : v ∈ (⟨K, [v], H⟩ : Bx).As := List.mem_singleton.mpr rfl
    have ha : (a, Cell.lst es) ∈ [(v, Cell.well), (a, Cell.lst es)] := by simp
    walk_at "ev"
    refine ev_draw ?_
    walk_at "ev"
    refine cb_lenL (.inr ⟨a, rfl, .inl ha⟩) ?_
    walk_at "ev"
    refine ⟨_, _, rfl, ⟨hv, by omega, by omega⟩, fun n n0 n1 => ?_⟩
    refine r2_ixSL ha n0 n1 fun d hd => ?_
    exact ⟨d, rfl, hd⟩
theorem ev_pickT {B : Bx} {T : Th} {Γ : List Sl} {Q : Sl → Prop} {tl : TA} (h : EvA B T tl Γ fun ss => ∃ v ds, ss = [.ref v, .dat (.tuple ds)] ∧ (v ∈ B.As ∧ 0 < ds.length ∧ ds.length ≤ 1000) ∧ ∀ d, d ∈ ds → Q (.dat d)) : EvT B T (tCall (spPick B.K) [] E0 tl) Γ Q := fun σ H k o c => h σ H _ o fun vs H' ss o' kp r ⟨v, ds, e, ⟨h1, h2, h3⟩, q⟩ => by
  subst e
  obtain ⟨y, x, rfl, r1, r2⟩ := r.two
  cases (show y = .ref v from r1)
  have hm := o'.t.as v h1
  exact ⟨v, x, ds, rfl, o'.t.cells _ hm, h2, h3, .inl r2, fun u H2 d k1 k2 k3 k4 => c u H2 _ (o'.kp (o'.t.turned hm h1 k1 k2) (Kp.turned hm k1)) (kp.trans (Kp.turned hm k1)) (rvD k3) (q d k4)⟩
theorem ev_pickL {B : Bx} {T : Th} {Γ : List Sl} {Q : Sl → Prop} {tl : TA} (h : EvA B T tl Γ fun ss => ∃ v a ds, ss = [.ref v, .ref a] ∧ (v ∈ B.As ∧ 0 < ds.length ∧ ds.length ≤ 1000 ∧ ((a, Cell.lst ds) ∈ T ∨ (a, Cell.own ds) ∈ T)) ∧ ∀ d, d ∈ ds → Q (.dat d)) : EvT B T (tCall (spPick B.K) [] E0 tl) Γ Q := fun σ H k o c => h σ H _ o fun vs H' ss o' kp r ⟨v, a, ds, e, ⟨h1, h2, h3, h4⟩, q⟩ => by
  subst e
  obtain ⟨y, x, rfl, r1, r2⟩ := r.two
  cases (show y = .ref v from r1)
  cases (show x = .ref a from r2)
  have hm := o'.t.as v h1
  have hne : v ≠ a := fun z => by
    subst z
    rcases h4 with h4 | h4
    · have := nd_cell o'.t.nd hm h4
      cases this
    · have := nd_cell o'.t.nd hm h4
      cases this
  obtain ⟨xs, ex, rx⟩ : ∃ xs, H' a = some (.lst xs) ∧ RpAll B.K H' xs ds := by
    rcases h4 with h4 | h4
    · exact o'.t.cells _ h4
    · exact (o'.t.cells _ h4).2
  exact ⟨v, _, ds, rfl, o'.t.cells _ hm, h2, h3, .inr ⟨a, xs, rfl, hne, ex, rx⟩, fun u H2 d k1 k2 k3 k4 => c u H2 _ (o'.kp (o'.t.turned hm h1 k1 k2) (Kp.turned hm k1)) (kp.trans (Kp.turned hm k1)) (rvD k3) (q d k4)⟩
end
end Pl
end
section
set_option Elab.async false
set_option linter.all false
set_option maxRecDepth 100000
set_option autoImplicit false
set_option maxHeartbeats 1000000
/-! the law's points, circles and lines -/
namespace Pl
open PySem PySem.Spec PyProof.Rows L2
local macro_rules | `(tactic| walk_at "ev1") => `(tactic| first
  | with_reducible refine ev_var rfl ?_
  | with_reducible refine ev_ref rfl ?_
  | with_reducible refine ev_int ?_
  | with_reducible refine ev_str ?_
  | with_reducible refine ev_bl ?_
  | with_reducible refine ev_ty ?_
  | with_reducible refine ev_op ?_
  | with_reducible refine ev_un ?_
  | with_reducible refine ev_if ?_
  | with_reducible refine ev_tup ?_
  | with_reducible refine ev_lst ?_
  | with_reducible refine ev_cb ?_
  | with_reducible refine ev_andV ?_
  | with_reducible refine ev_orV ?_
  | with_reducible refine ev_notV ?_
  | with_reducible refine ec_val ?_
  | with_reducible refine ec_test ?_
  | with_reducible refine ec_not ?_
  | with_reducible refine ec_and ?_
  | with_reducible refine ec_or ?_
  | with_reducible refine ea_nil ?_
  | with_reducible refine ea_cons ?_
  | with_reducible refine es_seq ?_
  | with_reducible refine es_drop ?_
  | with_reducible refine es_ret ?_
  | with_reducible refine es_if ?_
  | with_reducible refine es_asg ?_
  | with_reducible refine es_asgG ?_
  | with_reducible refine es_par ?_
  | with_reducible refine es_par3 ?_
  | with_reducible refine es_next ?_
  | with_reducible refine eg_name (by (simp only [List.set_cons_succ, List.set_cons_zero]); exact rfl) ?_
  | with_reducible refine par_q (by (simp only [List.set_cons_succ, List.set_cons_zero]); exact rfl) ?_
  | with_reducible refine par_q3 (by (simp only [List.set_cons_succ, List.set_cons_zero]); exact rfl) ?_
  | with_reducible refine asg_dat (by (simp only [List.set_cons_succ, List.set_cons_zero]); exact rfl) ?_
  | with_reducible refine asg_ref (by (simp only [List.set_cons_succ, List.set_cons_zero]); exact rfl) ?_
  | with_reducible refine eg_tup rfl ?_
  | with_reducible refine eg_cons ?_
  | with_reducible refine eg_nil ?_
  | with_reducible refine tup_q2 ?_
  | with_reducible refine tup_q3 ?_
  | with_reducible refine tup_q4 ?_
  | with_reducible refine tup_q5 ?_
  | with_reducible refine tup_q8 ?_
  | with_reducible refine tup_q11 ?_
  | with_reducible refine tup_q0 ?_
  | with_reducible refine tup_q1 ?_
  | with_reducible refine tst ?_
  | with_reducible refine tun ?_
  | with_reducible refine r2_ix rfl ?_
  | with_reducible refine r2_i0 ?_
  | with_reducible refine r2_b0 ?_
  | with_reducible refine r2_eqI ?_
  | with_reducible refine r2_neI ?_
  | with_reducible refine r2_eqS ?_
  | with_reducible refine r2_neS ?_
  | with_reducible refine r2_subB ?_
  | with_reducible refine cb_gcd ?_
  | with_reducible refine cb_abs ?_
  | with_reducible refine cb_int ?_
  | with_reducible refine cb_lenT ?_)
local macro_rules | `(tactic| walk_at "sz") => `(tactic| first
  | assumption
  | with_reducible exact sz_0
  | with_reducible exact sz_1
  | with_reducible exact sz_2
  | with_reducible exact sz_4
  | with_reducible exact sz_m1
  | with_reducible exact Sz.mul (by walk_at "sz") (by walk_at "sz")
  | with_reducible exact Sz.add (by walk_at "sz") (by walk_at "sz")
  | with_reducible exact Sz.sub (by walk_at "sz") (by walk_at "sz")
  | with_reducible exact Sz.neg (by walk_at "sz"))
local macro_rules | `(tactic| walk_at "mulok") => `(tactic| first
  | assumption
  | exact mulok (by walk_at "sz") (by walk_at "sz") (by decide))
local macro_rules | `(tactic| walk_at "ev1") => `(tactic| (refine r2_i (C := CMulW) ?_ ?_; walk_at "mulok"))
local macro_rules | `(tactic| walk_at "ev") => `(tactic| repeat walk_at "ev1")
section
variable {P : Program} {w : World} {K : PySem.W.Frag} {mg : Str → Option Value} {base : Heap}
def S_small : List PyData → (PyData → Prop) → Prop
  | [], P => P = fun d => ∃ x : Qn, d = qD x ∧ QB 3 3 x
  | _, _ => False
theorem sc_law_small : FnScope ["_law_well_here"] ["_law_well_here"] (defScope s_law_small) := ⟨rfl, rfl, rfl, by decide +kernel, rfl, by decide +kernel, by decide +kernel⟩
theorem bd_law_small : BindsOf "_law_small" s_law_small ["_law_well_here"] := fun _ _ _ _ _ _ us hl => match us, hl with | [_], _ => rfl
theorem ok_law_small (T : Tx K mg) (G_law_lean : Gd P w K mg base 2 "_law_lean" ["_law_top", "_law_low"] (spP K S_lean)) (G_law_draw : Gd P w K mg base 1 "_law_draw" ["_law_well_here", "_law_many"] (spW K S_draw)) : Gd P w K mg base 3 "_law_small" ["_law_well_here"] (spW K S_small) := by
  refine (T.dfn 47 rfl).gdW (n := 0) sc_law_small bd_law_small (fun ds d h => match ds, h with | [], _ => rfl) rfl (by decide) ?_
  intro f cdv A outer s H E hr
  have nd := sc_law_small.nd
  refine ⟨_, (pss_cons (ps_if (pt_cmpR op_gt (pe_callG G_law_draw (hr.mono (by decide)) rfl (pa_cons (pv 0) (pa_cons pe_int pa_nil))) pe_int (nomark _)) (pss_one (ps_ret (pe_tup (pa_cons (pe_ix ix_tup (pe_tup (pa_cons pe_int (pa_cons pe_int (pa_cons (pe_un un_neg pe_int) (pa_cons pe_int (pa_cons pe_int (pa_cons pe_int (pa_cons (pe_un un_neg pe_int) (pa_cons pe_int pa_nil))))))))) (pe_callG G_law_draw (hr.mono (by decide)) rfl (pa_cons (pv 0) (pa_cons pe_int pa_nil))) (fun _ _ => rfl)) (pa_cons pe_int pa_nil))))) pss_nil)
      (pss_one (ps_ret (pe_callG G_law_lean hr rfl (pa_cons (pe_op op_sub (pe_callG G_law_draw (hr.mono (by decide)) rfl (pa_cons (pv 0) (pa_cons pe_int pa_nil))) pe_int) (pa_cons (pe_op op_add pe_int (pe_callG G_law_draw (hr.mono (by decide)) rfl (pa_cons (pv 0) (pa_cons pe_int pa_nil)))) pa_nil)))))), ?_⟩
  try simp only [cxK, cxN]
  intro v ds Pd h
  rcases ds with _ | ⟨z, zs⟩ <;> (try exact h.elim)
  change EvS _ _ _ [Sl.ref v] _ _
  have h : Pd = _ := h
  subst h
  have hv : v ∈ (⟨K, [v], H⟩ : Bx).As := List.mem_singleton.mpr rfl
  walk_at "ev"
  refine ev_draw ?_
  walk_at "ev"
  refine ⟨_, _, rfl, ⟨hv, by decide, by decide⟩, fun n n0 n1 => ?_⟩
  walk_at "ev"
  refine ⟨fun _ => ?_, fun _ => ?_⟩
  · walk_at "ev"
    refine ev_draw ?_
    walk_at "ev"
    refine ⟨_, _, rfl, ⟨hv, by decide, by decide⟩, fun n n0 n1 => ?_⟩
    refine r2_ixA n0 n1 fun d hd => ?_
    have hq : ∃ i : Int, d = .int i ∧ Sz 3 i := by
      simp only [List.mem_cons, List.not_mem_nil, or_false] at hd
      rcases hd with rfl | rfl | rfl | rfl | rfl | rfl | rfl | rfl <;> exact ⟨_, rfl, by decide⟩
    obtain ⟨i, rfl, hi⟩ := hq
    walk_at "ev"
    exact ⟨_, rfl, (i, 1), rfl, (qbi hi).mono (by decide) (by decide)⟩
  · walk_at "ev"
    refine ev_lean ?_
    walk_at "ev"
    refine ev_draw ?_
    walk_at "ev"
    refine ⟨_, _, rfl, ⟨hv, by decide, by decide⟩, fun n n0 n1 => ?_⟩
    walk_at "ev"
    refine ev_draw ?_
    walk_at "ev"
    refine ⟨_, _, rfl, ⟨hv, by decide, by decide⟩, fun k k0 k1 => ?_⟩
    walk_at "ev"
    have z1 : Sz 3 (n - 6) := by
      unfold Sz
      omega
    have z2 : Sz 3 (2 + k) := by
      unfold Sz
      omega
    exact ⟨_, _, rfl, ⟨by omega, .inl (z2.mono (by decide))⟩, _, rfl, _, rfl, .of_vb (ratio_vb (by omega)) z1 z2⟩
theorem ev_small {B : Bx} {T : Th} {Γ : List Sl} {Q : Sl → Prop} {tl : TA} (h : EvA B T tl Γ fun ss => ∃ v, ss = [.ref v] ∧ v ∈ B.As ∧ ∀ x : Qn, QB 3 3 x → Q (.dat (qD x))) : EvT B T (tCall (spW B.K S_small) [] E0 tl) Γ Q :=
  ev_callW fun σ H k o c => h σ H _ o fun vs H' ss o' kp r ⟨v, e, h1, q⟩ => c vs H' ss o' kp r ⟨v, [], _, e, h1, rfl, fun d ⟨x, e, hx⟩ => by subst e; exact q x hx⟩
abbrev ptD (x y : Qn) : PyData := .tuple [qD x, qD y]
def S_point : List PyData → (PyData → Prop) → Prop
  | [], P => P = fun d => ∃ x y : Qn, d = ptD x y ∧ QB 3 3 x ∧ QB 3 3 y
  | _, _ => False
theorem sc_law_point : FnScope ["_law_well_here", "_law_x"] ["_law_well_here"] (defScope s_law_point) := ⟨rfl, rfl, rfl, by decide +kernel, rfl, by decide +kernel, by decide +kernel⟩
theorem bd_law_point : BindsOf "_law_point" s_law_point ["_law_well_here"] := fun _ _ _ _ _ _ us hl => match us, hl with | [_], _ => rfl
theorem ok_law_point (T : Tx K mg) (G_law_small : Gd P w K mg base 3 "_law_small" ["_law_well_here"] (spW K S_small)) : Gd P w K mg base 4 "_law_point" ["_law_well_here"] (spW K S_point) := by
  refine (T.dfn 48 rfl).gdW (n := 0) sc_law_point bd_law_point (fun ds d h => match ds, h with | [], _ => rfl) rfl (by decide) ?_
  intro f cdv A outer s H E hr
  have nd := sc_law_point.nd
  refine ⟨_, (pss_cons (ps_set (i := 1) nd rfl (Or.inl rfl) (pe_callG G_law_small hr rfl (pa_cons (pv 0) pa_nil)))
      (pss_one (ps_ret (pe_tup (pa_cons (pv 1) (pa_cons (pe_callG G_law_small hr rfl (pa_cons (pv 0) pa_nil)) pa_nil)))))), ?_⟩
  try simp only [cxK, cxN]
  intro v ds Pd h
  rcases ds with _ | ⟨z, zs⟩ <;> (try exact h.elim)
  change EvS _ _ _ [Sl.ref v, Sl.no] _ _
  have h : Pd = _ := h
  subst h
  have hv : v ∈ (⟨K, [v], H⟩ : Bx).As := List.mem_singleton.mpr rfl
  walk_at "ev"
  refine ev_small ?_
  walk_at "ev"
  refine ⟨_, rfl, hv, fun x hx => ?_⟩
  walk_at "ev"
  refine ev_small ?_
  walk_at "ev"
  refine ⟨_, rfl, hv, fun y hy => ?_⟩
  walk_at "ev"
  exact ⟨_, rfl, x, y, rfl, hx, hy⟩
theorem ev_point {B : Bx} {T : Th} {Γ : List Sl} {Q : Sl → Prop} {tl : TA} (h : EvA B T tl Γ fun ss => ∃ v, ss = [.ref v] ∧ v ∈ B.As ∧ ∀ x y : Qn, QB 3 3 x → QB 3 3 y → Q (.dat (ptD x y))) : EvT B T (tCall (spW B.K S_point) [] E0 tl) Γ Q :=
  ev_callW fun σ H k o c => h σ H _ o fun vs H' ss o' kp r ⟨v, e, h1, q⟩ => c vs H' ss o' kp r ⟨v, [], _, e, h1, rfl, fun d ⟨x, y, e, hx, hy⟩ => by subst e; exact q x y hx hy⟩
def S_size : List PyData → (PyData → Prop) → Prop
  | [], P => P = fun d => ∃ x : Qn, d = qD x ∧ QB 5 3 x ∧ 0 < x.1
  | _, _ => False
theorem mem_q {l : List Qn} {d : PyData} (h : d ∈ l.map fun x => qD x) : ∃ x, x ∈ l ∧ d = qD x := by
  obtain ⟨x, h1, h2⟩ := List.mem_map.mp h
  exact ⟨x, h1, h2.symm⟩
theorem sc_law_size : FnScope ["_law_well_here"] ["_law_well_here"] (defScope s_law_size) := ⟨rfl, rfl, rfl, by decide +kernel, rfl, by decide +kernel, by decide +kernel⟩
theorem bd_law_size : BindsOf "_law_size" s_law_size ["_law_well_here"] := fun _ _ _ _ _ _ us hl => match us, hl with | [_], _ => rfl
theorem ok_law_size (T : Tx K mg) (G_law_lean : Gd P w K mg base 2 "_law_lean" ["_law_top", "_law_low"] (spP K S_lean)) (G_law_draw : Gd P w K mg base 1 "_law_draw" ["_law_well_here", "_law_many"] (spW K S_draw)) (G_law_pick : Gd P w K mg base 2 "_law_pick" ["_law_well_here", "_law_some"] (spPick K)) : Gd P w K mg base 3 "_law_size" ["_law_well_here"] (spW K S_size) := by
  refine (T.dfn 49 rfl).gdW (n := 0) sc_law_size bd_law_size (fun ds d h => match ds, h with | [], _ => rfl) rfl (by decide) ?_
  intro f cdv A outer s H E hr
  have nd := sc_law_size.nd
  refine ⟨_, (pss_cons (ps_if (pt_cmpR op_gt (pe_callG G_law_draw (hr.mono (by decide)) rfl (pa_cons (pv 0) (pa_cons pe_int pa_nil))) pe_int (nomark _)) (pss_one (ps_ret (pe_callG G_law_pick hr rfl (pa_cons (pv 0) (pa_cons (pe_tup (pa_cons (pe_tup (pa_cons pe_int (pa_cons pe_int pa_nil))) (pa_cons (pe_tup (pa_cons pe_int (pa_cons pe_int pa_nil))) (pa_cons (pe_tup (pa_cons pe_int (pa_cons pe_int pa_nil))) (pa_cons (pe_tup (pa_cons pe_int (pa_cons pe_int pa_nil))) (pa_cons (pe_tup (pa_cons pe_int (pa_cons pe_int pa_nil))) (pa_cons (pe_tup (pa_cons pe_int (pa_cons pe_int pa_nil))) (pa_cons (pe_tup (pa_cons pe_int (pa_cons pe_int pa_nil))) (pa_cons (pe_tup (pa_cons pe_int (pa_cons pe_int pa_nil))) pa_nil))))))))) pa_nil))))) pss_nil)
      (pss_one (ps_ret (pe_callG G_law_lean hr rfl (pa_cons (pe_op op_add pe_int (pe_callG G_law_draw (hr.mono (by decide)) rfl (pa_cons (pv 0) (pa_cons pe_int pa_nil)))) (pa_cons (pe_op op_add pe_int (pe_callG G_law_draw (hr.mono (by decide)) rfl (pa_cons (pv 0) (pa_cons pe_int pa_nil)))) pa_nil)))))), ?_⟩
  try simp only [cxK, cxN]
  intro v ds Pd h
  rcases ds with _ | ⟨z, zs⟩ <;> (try exact h.elim)
  change EvS _ _ _ [Sl.ref v] _ _
  have h : Pd = _ := h
  subst h
  have hv : v ∈ (⟨K, [v], H⟩ : Bx).As := List.mem_singleton.mpr rfl
  walk_at "ev"
  refine ev_draw ?_
  walk_at "ev"
  refine ⟨_, _, rfl, ⟨hv, by decide, by decide⟩, fun n n0 n1 => ?_⟩
  walk_at "ev"
  refine ⟨fun _ => ?_, fun _ => ?_⟩
  · walk_at "ev"
    refine ev_pickT ?_
    walk_at "ev"
    refine ⟨_, _, rfl, ⟨hv, by simp, by simp⟩, fun d hd => ?_⟩
    obtain ⟨x, hx, rfl⟩ := mem_q (l := [(1, 1), (4, 1), (1, 4), (1, 1), (9, 1), (4, 1), (9, 4), (25, 1)]) hd
    have : QB 5 3 x ∧ 0 < x.1 := (by decide : ∀ x ∈ ([(1, 1), (4, 1), (1, 4), (1, 1), (9, 1), (4, 1), (9, 4), (25, 1)] : List Qn), QB 5 3 x ∧ 0 < x.1) x hx
    exact ⟨_, rfl, x, rfl, this⟩
  · walk_at "ev"
    refine ev_lean ?_
    walk_at "ev"
    refine ev_draw ?_
    walk_at "ev"
    refine ⟨_, _, rfl, ⟨hv, by decide, by decide⟩, fun n n0 n1 => ?_⟩
    walk_at "ev"
    refine ev_draw ?_
    walk_at "ev"
    refine ⟨_, _, rfl, ⟨hv, by decide, by decide⟩, fun k k0 k1 => ?_⟩
    walk_at "ev"
    have z1 : Sz 5 (1 + n) := by
      unfold Sz
      omega
    have z2 : Sz 3 (1 + k) := by
      unfold Sz
      omega
    have hvb := ratio_vb (t := 1 + n) (l := 1 + k) (by omega)
    refine ⟨_, _, rfl, ⟨by omega, .inl (z2.mono (by decide))⟩, _, rfl, _, rfl, .of_vb hvb z1 z2, ?_⟩
    have e := hvb.eq
    have p := hvb.red.1
    generalize ratio (1 + n) (1 + k) = x at *
    have h1 : 0 < (1 + n) * x.2 := Int.mul_pos (by omega) p
    rw [← e] at h1
    rcases Int.lt_or_le 0 x.1 with z | z
    · exact z
    · exfalso
      have := Int.mul_nonneg (show 0 ≤ -x.1 by omega) (show 0 ≤ 1 + k by omega)
      rw [Int.neg_mul] at this
      omega
theorem ev_size {B : Bx} {T : Th} {Γ : List Sl} {Q : Sl → Prop} {tl : TA} (h : EvA B T tl Γ fun ss => ∃ v, ss = [.ref v] ∧ v ∈ B.As ∧ ∀ x : Qn, QB 5 3 x → 0 < x.1 → Q (.dat (qD x))) : EvT B T (tCall (spW B.K S_size) [] E0 tl) Γ Q :=
  ev_callW fun σ H k o c => h σ H _ o fun vs H' ss o' kp r ⟨v, e, h1, q⟩ => c vs H' ss o' kp r ⟨v, [], _, e, h1, rfl, fun d ⟨x, e, hx, hy⟩ => by subst e; exact q x hx hy⟩
def S_disc : List PyData → (PyData → Prop) → Prop
  | [], P => P = fun d => ∃ c, d = cD c ∧ Lv1c c
  | _, _ => False
theorem sc_law_disc : FnScope ["_law_well_here", "_law_x", "_law_y"] ["_law_well_here"] (defScope s_law_disc) := ⟨rfl, rfl, rfl, by decide +kernel, rfl, by decide +kernel, by decide +kernel⟩
theorem bd_law_disc : BindsOf "_law_disc" s_law_disc ["_law_well_here"] := fun _ _ _ _ _ _ us hl => match us, hl with | [_], _ => rfl
theorem ok_law_disc (T : Tx K mg) (G_law_point : Gd P w K mg base 4 "_law_point" ["_law_well_here"] (spW K S_point)) (G_law_size : Gd P w K mg base 3 "_law_size" ["_law_well_here"] (spW K S_size)) : Gd P w K mg base 5 "_law_disc" ["_law_well_here"] (spW K S_disc) := by
  refine (T.dfn 50 rfl).gdW (n := 0) sc_law_disc bd_law_disc (fun ds d h => match ds, h with | [], _ => rfl) rfl (by decide) ?_
  intro f cdv A outer s H E hr
  have nd := sc_law_disc.nd
  refine ⟨_, (pss_cons (ps_asg (pe_callG G_law_point hr rfl (pa_cons (pv 0) pa_nil)) (pg_tup rfl (pgs_cons (pg_name (i := 1) nd rfl (Or.inl rfl)) (pgs_cons (pg_name (i := 2) nd rfl (Or.inl rfl)) pgs_nil))))
      (pss_one (ps_ret (pe_tup (pa_cons pe_str (pa_cons (pv 1) (pa_cons (pv 2) (pa_cons (pe_callG G_law_size (hr.mono (by decide)) rfl (pa_cons (pv 0) pa_nil)) pa_nil)))))))), ?_⟩
  try simp only [cxK, cxN]
  intro v ds Pd h
  rcases ds with _ | ⟨z, zs⟩ <;> (try exact h.elim)
  change EvS _ _ _ [Sl.ref v, Sl.no, Sl.no] _ _
  have h : Pd = _ := h
  subst h
  have hv : v ∈ (⟨K, [v], H⟩ : Bx).As := List.mem_singleton.mpr rfl
  walk_at "ev"
  refine ev_point ?_
  walk_at "ev"
  refine ⟨_, rfl, hv, fun x y hx hy => ?_⟩
  walk_at "ev"
  refine ev_size ?_
  walk_at "ev"
  refine ⟨_, rfl, hv, fun q hq hp => ?_⟩
  walk_at "ev"
  exact ⟨_, rfl, .circ x y q, rfl, hx, hy, hq, hp⟩
theorem ev_disc {B : Bx} {T : Th} {Γ : List Sl} {Q : Sl → Prop} {tl : TA} (h : EvA B T tl Γ fun ss => ∃ v, ss = [.ref v] ∧ v ∈ B.As ∧ ∀ c, Lv1c c → Q (.dat (cD c))) : EvT B T (tCall (spW B.K S_disc) [] E0 tl) Γ Q :=
  ev_callW fun σ H k o c => h σ H _ o fun vs H' ss o' kp r ⟨v, e, h1, q⟩ => c vs H' ss o' kp r ⟨v, [], _, e, h1, rfl, fun d ⟨x, e, hx⟩ => by subst e; exact q x hx⟩
def S_line : List PyData → (PyData → Prop) → Prop
  | [], P => P = fun d => ∃ a b c : Qn, d = cD (.line a b c) ∧ LineB 4 2 3 3 a b c
  | _, _ => False
def pairs : List Qn := [(1, 0), (0, 1), (1, 1), (1, -1), (1, 2), (2, -1), (-1, 0), (0, -1), (3, 4), (-1, -1), (1, 0)]
def factors : List Qn := [(1, 1), (2, 1), (1, 2), (-3, 1), (2, 3)]
theorem line_all : ∀ k ∈ factors, QB 2 2 k ∧ ∀ p ∈ pairs, Sz 3 p.1 ∧ Sz 3 p.2 ∧ QB 4 2 (qmul k (p.1, 1)) ∧ QB 4 2 (qmul k (p.2, 1)) ∧ (qmul k (p.1, 1) ≠ (0, 1) ∨ qmul k (p.2, 1) ≠ (0, 1)) := by decide +kernel
theorem sc_law_line : FnScope ["_law_well_here", "_law_some", "_law_a", "_law_b", "_law_by"] ["_law_well_here"] (defScope s_law_line) := ⟨rfl, rfl, rfl, by decide +kernel, rfl, by decide +kernel, by decide +kernel⟩
theorem bd_law_line : BindsOf "_law_line" s_law_line ["_law_well_here"] := fun _ _ _ _ _ _ us hl => match us, hl with | [_], _ => rfl
theorem ok_law_line (T : Tx K mg) (G_law_pick : Gd P w K mg base 2 "_law_pick" ["_law_well_here", "_law_some"] (spPick K)) (G_law_mul : Gd P w K mg base 3 "_law_mul" ["_law_one", "_law_two"] (spP K S_mul)) (G_law_small : Gd P w K mg base 3 "_law_small" ["_law_well_here"] (spW K S_small)) (G_law_draw : Gd P w K mg base 1 "_law_draw" ["_law_well_here", "_law_many"] (spW K S_draw)) : Gd P w K mg base 4 "_law_line" ["_law_well_here"] (spW K S_line) := by
  refine (T.dfn 51 rfl).gdW (n := 0) sc_law_line bd_law_line (fun ds d h => match ds, h with | [], _ => rfl) rfl (by decide) ?_
  intro f cdv A outer s H E hr
  have nd := sc_law_line.nd
  refine ⟨_, (pss_cons (ps_set (i := 1) nd rfl (Or.inl rfl) (pe_tup (pa_cons (pe_tup (pa_cons pe_int (pa_cons pe_int pa_nil))) (pa_cons (pe_tup (pa_cons pe_int (pa_cons pe_int pa_nil))) (pa_cons (pe_tup (pa_cons pe_int (pa_cons pe_int pa_nil))) (pa_cons (pe_tup (pa_cons pe_int (pa_cons (pe_un un_neg pe_int) pa_nil))) (pa_cons (pe_tup (pa_cons pe_int (pa_cons pe_int pa_nil))) (pa_cons (pe_tup (pa_cons pe_int (pa_cons (pe_un un_neg pe_int) pa_nil))) (pa_cons (pe_tup (pa_cons (pe_un un_neg pe_int) (pa_cons pe_int pa_nil))) (pa_cons (pe_tup (pa_cons pe_int (pa_cons (pe_un un_neg pe_int) pa_nil))) (pa_cons (pe_tup (pa_cons pe_int (pa_cons pe_int pa_nil))) (pa_cons (pe_tup (pa_cons (pe_un un_neg pe_int) (pa_cons (pe_un un_neg pe_int) pa_nil))) (pa_cons (pe_tup (pa_cons pe_int (pa_cons pe_int pa_nil))) pa_nil)))))))))))))
      (pss_cons (ps_asg (pe_callG G_law_pick (hr.mono (by decide)) rfl (pa_cons (pv 0) (pa_cons (pv 1) pa_nil))) (pg_tup rfl (pgs_cons (pg_name (i := 2) nd rfl (Or.inl rfl)) (pgs_cons (pg_name (i := 3) nd rfl (Or.inl rfl)) pgs_nil))))
      (pss_cons (ps_set (i := 4) nd rfl (Or.inl rfl) (pe_ifExp (pt_cmpR op_gt (pe_callG G_law_draw (hr.mono (by decide)) rfl (pa_cons (pv 0) (pa_cons pe_int pa_nil))) pe_int (nomark _)) (pe_tup (pa_cons pe_int (pa_cons pe_int pa_nil))) (pe_callG G_law_pick (hr.mono (by decide)) rfl (pa_cons (pv 0) (pa_cons (pe_tup (pa_cons (pe_tup (pa_cons pe_int (pa_cons pe_int pa_nil))) (pa_cons (pe_tup (pa_cons pe_int (pa_cons pe_int pa_nil))) (pa_cons (pe_tup (pa_cons (pe_un un_neg pe_int) (pa_cons pe_int pa_nil))) (pa_cons (pe_tup (pa_cons pe_int (pa_cons pe_int pa_nil))) pa_nil))))) pa_nil)))))
      (pss_one (ps_ret (pe_tup (pa_cons pe_str (pa_cons (pe_callG G_law_mul hr rfl (pa_cons (pv 4) (pa_cons (pe_tup (pa_cons (pv 2) (pa_cons pe_int pa_nil))) pa_nil))) (pa_cons (pe_callG G_law_mul hr rfl (pa_cons (pv 4) (pa_cons (pe_tup (pa_cons (pv 3) (pa_cons pe_int pa_nil))) pa_nil))) (pa_cons (pe_callG G_law_small hr rfl (pa_cons (pv 0) pa_nil)) pa_nil)))))))))), ?_⟩
  try simp only [cxK, cxN]
  intro v ds Pd h
  rcases ds with _ | ⟨z, zs⟩ <;> (try exact h.elim)
  change EvS _ _ _ [Sl.ref v, Sl.no, Sl.no, Sl.no, Sl.no] _ _
  have h : Pd = _ := h
  subst h
  have hv : v ∈ (⟨K, [v], H⟩ : Bx).As := List.mem_singleton.mpr rfl
  walk_at "ev"
  refine ev_pickT ?_
  walk_at "ev"
  refine ⟨_, _, rfl, ⟨hv, by simp, by simp⟩, fun d hd => ?_⟩
  obtain ⟨p, hp, rfl⟩ := mem_q (l := pairs) hd
  walk_at "ev"
  refine ev_draw ?_
  walk_at "ev"
  refine ⟨_, _, rfl, ⟨hv, by decide, by decide⟩, fun n n0 n1 => ?_⟩
  walk_at "ev"
  refine ⟨fun _ => ?_, fun _ => ?_⟩
  · walk_at "ev"
    obtain ⟨k, ek, hk⟩ : ∃ k : Qn, k = (1, 1) ∧ k ∈ factors := ⟨_, rfl, by decide⟩
    have ed : PyData.tuple [.int 1, .int 1] = qD k := by rw [ek]
    rw [ed]
    obtain ⟨k1, k2⟩ := line_all k hk
    obtain ⟨s1, s2, s3, s4, s5⟩ := k2 p hp
    walk_at "ev"
    refine ev_mul ?_
    walk_at "ev"
    refine ⟨k, (p.1, 1), rfl, k1.mulC (qbi s1) (by decide) (by decide), ?_⟩
    walk_at "ev"
    refine ev_mul ?_
    walk_at "ev"
    refine ⟨k, (p.2, 1), rfl, k1.mulC (qbi s2) (by decide) (by decide), ?_⟩
    walk_at "ev"
    refine ev_small ?_
    walk_at "ev"
    refine ⟨_, rfl, hv, fun c hc => ?_⟩
    walk_at "ev"
    exact ⟨_, rfl, _, _, c, rfl, s3, s4, hc, s5⟩
  · refine ev_pickT ?_
    walk_at "ev"
    refine ⟨_, _, rfl, ⟨hv, by simp, by simp⟩, fun d hd => ?_⟩
    obtain ⟨k, hk, rfl⟩ := mem_q (l := [(2, 1), (1, 2), (-3, 1), (2, 3)]) hd
    have hk : k ∈ factors := List.mem_cons_of_mem _ hk
    obtain ⟨k1, k2⟩ := line_all k hk
    obtain ⟨s1, s2, s3, s4, s5⟩ := k2 p hp
    walk_at "ev"
    refine ev_mul ?_
    walk_at "ev"
    refine ⟨k, (p.1, 1), rfl, k1.mulC (qbi s1) (by decide) (by decide), ?_⟩
    walk_at "ev"
    refine ev_mul ?_
    walk_at "ev"
    refine ⟨k, (p.2, 1), rfl, k1.mulC (qbi s2) (by decide) (by decide), ?_⟩
    walk_at "ev"
    refine ev_small ?_
    walk_at "ev"
    refine ⟨_, rfl, hv, fun c hc => ?_⟩
    walk_at "ev"
    exact ⟨_, rfl, _, _, c, rfl, s3, s4, hc, s5⟩
theorem ev_line {B : Bx} {T : Th} {Γ : List Sl} {Q : Sl → Prop} {tl : TA} (h : EvA B T tl Γ fun ss => ∃ v, ss = [.ref v] ∧ v ∈ B.As ∧ ∀ a b c : Qn, LineB 4 2 3 3 a b c → Q (.dat (cD (.line a b c)))) : EvT B T (tCall (spW B.K S_line) [] E0 tl) Γ Q :=
  ev_callW fun σ H k o c => h σ H _ o fun vs H' ss o' kp r ⟨v, e, h1, q⟩ => c vs H' ss o' kp r ⟨v, [], _, e, h1, rfl, fun d ⟨x, y, z, e, hx⟩ => by subst e; exact q x y z hx⟩
end
end Pl
end
section
set_option Elab.async false
set_option linter.all false
set_option maxRecDepth 100000
set_option autoImplicit false
set_option maxHeartbeats 1000000
/-! the law's curve beside a circle -/
namespace Pl
open PySem PySem.Spec PyProof.Rows L2
local macro_rules | `(tactic| walk_at "ev1") => `(tactic| first
  | with_reducible refine ev_var rfl ?_
  | with_reducible refine ev_ref rfl ?_
  | with_reducible refine ev_int ?_
  | with_reducible refine ev_str ?_
  | with_reducible refine ev_bl ?_
  | with_reducible refine ev_ty ?_
  | with_reducible refine ev_op ?_
  | with_reducible refine ev_un ?_
  | with_reducible refine ev_if ?_
  | with_reducible refine ev_tup ?_
  | with_reducible refine ev_lst ?_
  | with_reducible refine ev_cb ?_
  | with_reducible refine ev_andV ?_
  | with_reducible refine ev_orV ?_
  | with_reducible refine ev_notV ?_
  | with_reducible refine ec_val ?_
  | with_reducible refine ec_test ?_
  | with_reducible refine ec_not ?_
  | with_reducible refine ec_and ?_
  | with_reducible refine ec_or ?_
  | with_reducible refine ea_nil ?_
  | with_reducible refine ea_cons ?_
  | with_reducible refine es_seq ?_
  | with_reducible refine es_drop ?_
  | with_reducible refine es_ret ?_
  | with_reducible refine es_if ?_
  | with_reducible refine es_asg ?_
  | with_reducible refine es_asgG ?_
  | with_reducible refine es_par ?_
  | with_reducible refine es_par3 ?_
  | with_reducible refine es_next ?_
  | with_reducible refine eg_name (by (simp only [List.set_cons_succ, List.set_cons_zero]); exact rfl) ?_
  | with_reducible refine par_q (by (simp only [List.set_cons_succ, List.set_cons_zero]); exact rfl) ?_
  | with_reducible refine par_q3 (by (simp only [List.set_cons_succ, List.set_cons_zero]); exact rfl) ?_
  | with_reducible refine asg_dat (by (simp only [List.set_cons_succ, List.set_cons_zero]); exact rfl) ?_
  | with_reducible refine asg_ref (by (simp only [List.set_cons_succ, List.set_cons_zero]); exact rfl) ?_
  | with_reducible refine eg_tup rfl ?_
  | with_reducible refine eg_cons ?_
  | with_reducible refine eg_nil ?_
  | with_reducible refine tup_q2 ?_
  | with_reducible refine tup_q3 ?_
  | with_reducible refine tup_q4 ?_
  | with_reducible refine tup_q5 ?_
  | with_reducible refine tup_q8 ?_
  | with_reducible refine tup_q11 ?_
  | with_reducible refine tup_q0 ?_
  | with_reducible refine tup_q1 ?_
  | with_reducible refine tst ?_
  | with_reducible refine tun ?_
  | with_reducible refine r2_ix rfl ?_
  | with_reducible refine r2_i0 ?_
  | with_reducible refine r2_b0 ?_
  | with_reducible refine r2_eqI ?_
  | with_reducible refine r2_neI ?_
  | with_reducible refine r2_eqS ?_
  | with_reducible refine r2_neS ?_
  | with_reducible refine r2_subB ?_
  | with_reducible refine cb_gcd ?_
  | with_reducible refine cb_abs ?_
  | with_reducible refine cb_int ?_
  | with_reducible refine cb_lenT ?_)
local macro_rules | `(tactic| walk_at "sz") => `(tactic| first
  | assumption
  | with_reducible exact sz_0
  | with_reducible exact sz_1
  | with_reducible exact sz_2
  | with_reducible exact sz_4
  | with_reducible exact sz_m1
  | with_reducible exact Sz.mul (by walk_at "sz") (by walk_at "sz")
  | with_reducible exact Sz.add (by walk_at "sz") (by walk_at "sz")
  | with_reducible exact Sz.sub (by walk_at "sz") (by walk_at "sz")
  | with_reducible exact Sz.neg (by walk_at "sz"))
local macro_rules | `(tactic| walk_at "mulok") => `(tactic| first
  | assumption
  | exact mulok (by walk_at "sz") (by walk_at "sz") (by decide))
local macro_rules | `(tactic| walk_at "ev1") => `(tactic| (refine r2_i (C := CMulW) ?_ ?_; walk_at "mulok"))
local macro_rules | `(tactic| walk_at "ev") => `(tactic| repeat walk_at "ev1")
section
variable {P : Program} {w : World} {K : PySem.W.Frag} {mg : Str → Option Value} {base : Heap}
theorem two_ev {B : Bx} {T : Th} {Γ : List Sl} {Q : Sl → Prop} {ta tb : TE} {b : Bool} (P : Sl → Prop) (h1 : b = true → EvT B T ta Γ P) (h2 : b = false → EvT B T tb Γ P) (h3 : ∀ s, P s → Q s) : (b = true → EvT B T ta Γ Q) ∧ (b = false → EvT B T tb Γ Q) :=
  ⟨fun e => (h1 e).imp h3, fun e => (h2 e).imp h3⟩
theorem orS {B : Bx} {T : Th} {Γ : List Sl} {tc : TT} {X Y : Prop} {b : Bool} (hx : X) (h : X → b = false → EvC B T tc Γ fun b => (b = true → X) ∧ (b = false → Y)) : (b = false → EvC B T tc Γ fun b => (b = true → X) ∧ (b = false → Y)) ∧ (b = true → (true = true → X) ∧ (true = false → Y)) :=
  ⟨h hx, fun _ => ⟨fun _ => hx, fun z => by cases z⟩⟩
theorem mem_qq {l : List (Qn × Qn)} {d : PyData} (h : d ∈ l.map fun x => PyData.tuple [qD x.1, qD x.2]) : ∃ x, x ∈ l ∧ d = .tuple [qD x.1, qD x.2] := by
  obtain ⟨x, h1, h2⟩ := List.mem_map.mp h
  exact ⟨x, h1, h2.symm⟩
/-- what beside gives, of a circle with n, d, m, e bits -/
def BesC (n d m e : Nat) : Cv → Prop
  | .circ x y q => CircB n d (m + 4) (e + 3) x y q ∨ CircB (max (n + 1) (1 + d) + 1) (d + 1) m e x y q ∨
      CircB (max (n + ((e + 1) / 2 + 2 + 3)) (max ((m + 1) / 2 + 2) (2 + (e + 1) / 2) + 1 + 3 + d) + 1) (d + ((e + 1) / 2 + 2 + 3)) 4 4 x y q
  | .line a b c => LineB 3 3 (max (max (3 + n + (3 + d)) (3 + n + (3 + d)) + 1 + (e + 1) / 2) ((m + 1) / 2 + (3 + d + (3 + d))) + 1) (3 + d + (3 + d) + (e + 1) / 2) a b c
def S_beside : List PyData → (PyData → Prop) → Prop
  | [a], P => ∃ (x y q : Qn) (n d m e : Nat), a = cD (.circ x y q) ∧ CircB n d m e x y q ∧ (n ≤ 300 ∧ d ≤ 300 ∧ m ≤ 300 ∧ e ≤ 300) ∧ P = fun D => ∃ c, D = cD c ∧ BesC n d m e c
  | _, _ => False
theorem qmul_pos {x y : Qn} (h1 : 0 < x.1) (h2 : 0 < y.1) (p1 : 0 < x.2) (p2 : 0 < y.2) : 0 < (qmul x y).1 := by
  have hvb := ratio_vb (t := x.1 * y.1) (l := x.2 * y.2) (Int.mul_pos p1 p2)
  have e := hvb.eq
  have p := hvb.red.1
  have h3 := Int.mul_pos (Int.mul_pos h1 h2) p
  have h4 := Int.mul_pos p1 p2
  show 0 < (ratio (x.1 * y.1) (x.2 * y.2)).1
  generalize ratio (x.1 * y.1) (x.2 * y.2) = z at *
  rw [← e] at h3
  rcases Int.lt_or_le 0 z.1 with k | k
  · exact k
  · have := Int.mul_nonneg (show 0 ≤ -z.1 by omega) (Int.le_of_lt h4)
    rw [Int.neg_mul] at this
    omega
def qs1 : List Qn := [(4, 1), (1, 4), (9, 4), (2, 1)]
def qs2 : List Qn := [(1, 1), (-1, 1), (0, 1)]
def qs3 : List Qn := [(1, 1), (1, 2), (2, 1), (3, 2)]
def ways : List (Qn × Qn) := [((1, 1), (0, 1)), ((0, 1), (1, 1)), ((1, 1), (0, 1)), ((3, 5), (4, 5)), ((4, 5), (-3, 5))]
theorem qs1_all : ∀ k ∈ qs1, QB 4 3 k ∧ 0 < k.1 := by decide
theorem qs2_all : ∀ k ∈ qs2, QB 1 1 k := by decide
theorem qs3_all : ∀ k ∈ qs3, QB 2 2 k ∧ 0 < k.1 := by decide
theorem ways_all : ∀ k ∈ ways, QB 3 3 k.1 ∧ QB 3 3 k.2 ∧ (k.1 ≠ (0, 1) ∨ k.2 ≠ (0, 1)) := by decide
theorem sc_law_beside : FnScope ["_law_well_here", "_law_ring_here", "_law_x", "_law_y", "_law_q", "_law_branch", "_law_r", "_law_s", "_law_way", "_law_far"] ["_law_well_here", "_law_ring_here"] (defScope s_law_beside) := ⟨rfl, rfl, rfl, by decide +kernel, rfl, by decide +kernel, by decide +kernel⟩
theorem bd_law_beside : BindsOf "_law_beside" s_law_beside ["_law_well_here", "_law_ring_here"] := fun _ _ _ _ _ _ us hl => match us, hl with | [_, _], _ => rfl
theorem ok_law_beside (T : Tx K mg) (G_law_draw : Gd P w K mg base 1 "_law_draw" ["_law_well_here", "_law_many"] (spW K S_draw)) (G_law_pick : Gd P w K mg base 2 "_law_pick" ["_law_well_here", "_law_some"] (spPick K)) (G_law_add : Gd P w K mg base 3 "_law_add" ["_law_one", "_law_two"] (spP K S_add)) (G_law_neg : Gd P w K mg base 1 "_law_neg" ["_law_one"] (spP K S_neg)) (G_law_mul : Gd P w K mg base 3 "_law_mul" ["_law_one", "_law_two"] (spP K S_mul)) (G_law_is_square : Gd P w K mg base 2 "_law_is_square" ["_law_number"] (spP K S_lsq)) (G_law_root : Gd P w K mg base 1 "_law_root" ["_law_number"] (spP K S_root)) : Gd P w K mg base 4 "_law_beside" ["_law_well_here", "_law_ring_here"] (spW K S_beside) := by
  refine (T.dfn 52 rfl).gdW (n := 1) sc_law_beside bd_law_beside (fun ds d h => match ds, h with | [_], _ => rfl) rfl (by decide) ?_
  intro f cdv A outer s H E hr
  have nd := sc_law_beside.nd
  refine ⟨_, (pss_cons (ps_par3 (i := 2) (j := 3) (l := 4) rfl nd rfl rfl rfl (by decide) (by decide) (by decide) rfl rfl rfl (pa_cons (pe_ix ix_tup (pv 1) pe_int (fun _ _ => rfl)) (pa_cons (pe_ix ix_tup (pv 1) pe_int (fun _ _ => rfl)) (pa_cons (pe_ix ix_tup (pv 1) pe_int (fun _ _ => rfl)) pa_nil))) (by rfl))
      (pss_cons (ps_set (i := 5) nd rfl (Or.inl rfl) (pe_callG G_law_draw (hr.mono (by decide)) rfl (pa_cons (pv 0) (pa_cons pe_int pa_nil))))
      (pss_cons (ps_if (PW.pt (pw_or (pt_not (pt_val (pe_callG G_law_is_square (hr.mono (by decide)) rfl (pa_cons (pe_op op_mulW (pe_ix ix_tup (pv 4) pe_int (fun _ _ => rfl)) (pe_ix ix_tup (pv 4) pe_int (fun _ _ => rfl))) pa_nil)))) (pw_or1 (pt_cmpR op_eq (pv 5) pe_int (nomark _))))) (pss_cons (ps_if (pt_cmpR op_eq (pe_callG G_law_draw (hr.mono (by decide)) rfl (pa_cons (pv 0) (pa_cons pe_int pa_nil))) pe_int (nomark _)) (pss_one (ps_ret (pe_tup (pa_cons pe_str (pa_cons (pv 2) (pa_cons (pv 3) (pa_cons (pe_callG G_law_mul hr rfl (pa_cons (pv 4) (pa_cons (pe_callG G_law_pick (hr.mono (by decide)) rfl (pa_cons (pv 0) (pa_cons (pe_tup (pa_cons (pe_tup (pa_cons pe_int (pa_cons pe_int pa_nil))) (pa_cons (pe_tup (pa_cons pe_int (pa_cons pe_int pa_nil))) (pa_cons (pe_tup (pa_cons pe_int (pa_cons pe_int pa_nil))) (pa_cons (pe_tup (pa_cons pe_int (pa_cons pe_int pa_nil))) pa_nil))))) pa_nil))) pa_nil))) pa_nil))))))) pss_nil)
      (pss_one (ps_ret (pe_tup (pa_cons pe_str (pa_cons (pe_callG G_law_add hr rfl (pa_cons (pv 2) (pa_cons (pe_callG G_law_pick (hr.mono (by decide)) rfl (pa_cons (pv 0) (pa_cons (pe_tup (pa_cons (pe_tup (pa_cons pe_int (pa_cons pe_int pa_nil))) (pa_cons (pe_tup (pa_cons (pe_un un_neg pe_int) (pa_cons pe_int pa_nil))) (pa_cons (pe_tup (pa_cons pe_int (pa_cons pe_int pa_nil))) pa_nil)))) pa_nil))) pa_nil))) (pa_cons (pe_callG G_law_add hr rfl (pa_cons (pv 3) (pa_cons (pe_tup (pa_cons pe_int (pa_cons pe_int pa_nil))) pa_nil))) (pa_cons (pv 4) pa_nil)))))))) pss_nil)
      (pss_cons (ps_par (i := 6) (j := 7) (by rfl) nd rfl rfl (by decide) rfl rfl (pa_cons (pe_tup (pa_cons (pe_callG G_law_root (hr.mono (by decide)) rfl (pa_cons (pe_ix ix_tup (pv 4) pe_int (fun _ _ => rfl)) pa_nil)) (pa_cons (pe_callG G_law_root (hr.mono (by decide)) rfl (pa_cons (pe_ix ix_tup (pv 4) pe_int (fun _ _ => rfl)) pa_nil)) pa_nil))) (pa_cons (pe_callG G_law_pick (hr.mono (by decide)) rfl (pa_cons (pv 0) (pa_cons (pe_tup (pa_cons (pe_tup (pa_cons pe_int (pa_cons pe_int pa_nil))) (pa_cons (pe_tup (pa_cons pe_int (pa_cons pe_int pa_nil))) (pa_cons (pe_tup (pa_cons pe_int (pa_cons pe_int pa_nil))) (pa_cons (pe_tup (pa_cons pe_int (pa_cons pe_int pa_nil))) pa_nil))))) pa_nil))) pa_nil)) (by rfl))
      (pss_cons (ps_set (i := 6) nd rfl (Or.inl rfl) (pe_ifExp (pt_cmpR op_eq (pe_callG G_law_draw (hr.mono (by decide)) rfl (pa_cons (pv 0) (pa_cons pe_int pa_nil))) pe_int (nomark _)) (pv 6) (pe_callG G_law_neg (hr.mono (by decide)) rfl (pa_cons (pv 6) pa_nil))))
      (pss_cons (ps_set (i := 8) nd rfl (Or.inl rfl) (pe_callG G_law_pick (hr.mono (by decide)) rfl (pa_cons (pv 0) (pa_cons (pe_tup (pa_cons (pe_tup (pa_cons (pe_tup (pa_cons pe_int (pa_cons pe_int pa_nil))) (pa_cons (pe_tup (pa_cons pe_int (pa_cons pe_int pa_nil))) pa_nil))) (pa_cons (pe_tup (pa_cons (pe_tup (pa_cons pe_int (pa_cons pe_int pa_nil))) (pa_cons (pe_tup (pa_cons pe_int (pa_cons pe_int pa_nil))) pa_nil))) (pa_cons (pe_tup (pa_cons (pe_tup (pa_cons pe_int (pa_cons pe_int pa_nil))) (pa_cons (pe_tup (pa_cons pe_int (pa_cons pe_int pa_nil))) pa_nil))) (pa_cons (pe_tup (pa_cons (pe_tup (pa_cons pe_int (pa_cons pe_int pa_nil))) (pa_cons (pe_tup (pa_cons pe_int (pa_cons pe_int pa_nil))) pa_nil))) (pa_cons (pe_tup (pa_cons (pe_tup (pa_cons pe_int (pa_cons pe_int pa_nil))) (pa_cons (pe_tup (pa_cons (pe_un un_neg pe_int) (pa_cons pe_int pa_nil))) pa_nil))) pa_nil)))))) pa_nil))))
      (pss_cons (ps_if (pt_cmpR op_lt (pv 5) pe_int (nomark _)) (pss_cons (ps_set (i := 9) nd rfl (Or.inl rfl) (pe_callG G_law_add hr rfl (pa_cons (pv 6) (pa_cons (pe_ifExp (pt_cmpR op_gt (pv 5) pe_int (nomark _)) (pv 7) (pe_callG G_law_neg (hr.mono (by decide)) rfl (pa_cons (pv 7) pa_nil))) pa_nil))))
      (pss_one (ps_ret (pe_tup (pa_cons pe_str (pa_cons (pe_callG G_law_add hr rfl (pa_cons (pv 2) (pa_cons (pe_callG G_law_mul hr rfl (pa_cons (pv 9) (pa_cons (pe_ix ix_tup (pv 8) pe_int (fun _ _ => rfl)) pa_nil))) pa_nil))) (pa_cons (pe_callG G_law_add hr rfl (pa_cons (pv 3) (pa_cons (pe_callG G_law_mul hr rfl (pa_cons (pv 9) (pa_cons (pe_ix ix_tup (pv 8) pe_int (fun _ _ => rfl)) pa_nil))) pa_nil))) (pa_cons (pe_callG G_law_mul hr rfl (pa_cons (pv 7) (pa_cons (pv 7) pa_nil))) pa_nil)))))))) pss_nil)
      (pss_cons (ps_set (i := 9) nd rfl (Or.inl rfl) (pe_callG G_law_add hr rfl (pa_cons (pe_callG G_law_mul hr rfl (pa_cons (pe_ix ix_tup (pv 8) pe_int (fun _ _ => rfl)) (pa_cons (pv 2) pa_nil))) (pa_cons (pe_callG G_law_mul hr rfl (pa_cons (pe_ix ix_tup (pv 8) pe_int (fun _ _ => rfl)) (pa_cons (pv 3) pa_nil))) pa_nil))))
      (pss_one (ps_ret (pe_tup (pa_cons pe_str (pa_cons (pe_ix ix_tup (pv 8) pe_int (fun _ _ => rfl)) (pa_cons (pe_ix ix_tup (pv 8) pe_int (fun _ _ => rfl)) (pa_cons (pe_ifExp (pt_cmpR op_eq (pv 5) pe_int (nomark _)) (pv 9) (pe_callG G_law_add hr rfl (pa_cons (pv 9) (pa_cons (pv 6) pa_nil)))) pa_nil))))))))))))))), ?_⟩
  try simp only [cxK, cxN]
  intro v ds Pd h
  rcases ds with _ | ⟨a, _ | ⟨z, zs⟩⟩ <;> (try exact h.elim)
  change EvS _ _ _ [Sl.ref v, Sl.dat _, Sl.no, Sl.no, Sl.no, Sl.no, Sl.no, Sl.no, Sl.no, Sl.no] _ _
  obtain ⟨x, y, q, n, d, m, e, rfl, ⟨hx, hy, hq, hqp⟩, ⟨ln, ld, lm, le⟩, rfl⟩ := h
  have hv : v ∈ (⟨K, [v], H⟩ : Bx).As := List.mem_singleton.mpr rfl
  have sq0 := hq.2.1
  have sq1 := hq.2.2
  have hqq : 0 < q.2 := hq.1.1
  have sm : Sz 16000 (q.1 * q.2) := (sq0.mul sq1).mono (by omega)
  have cm : CMulW q.1 q.2 := mulok sq0 sq1 (by omega)
  have qw : QW ((m + 1) / 2) ((e + 1) / 2) (isq q.1, isq q.2) := ⟨isq_pos hqq, sz_isq (sq0.mono (by omega)), sz_isq (sq1.mono (by omega))⟩
  walk_at "ev"
  refine ev_draw ?_
  walk_at "ev"
  refine ⟨_, _, rfl, ⟨hv, by decide, by decide⟩, fun bn bn0 bn1 => ?_⟩
  walk_at "ev"
  refine ev_lsq ?_
  walk_at "ev"
  refine ⟨_, rfl, sm, _, rfl, ?_⟩
  have pt : ∀ {Γ : List Sl} {Q : Sl → Prop} {tl : TA} {l : List Qn} {B : Bx} {T : Th}, l ≠ [] → l.length ≤ 1000 → EvA B T tl Γ (fun ss => ss = [.ref v, .dat (.tuple (l.map fun x => qD x))] ∧ v ∈ B.As ∧ ∀ k, k ∈ l → Q (.dat (qD k))) → EvT B T (tCall (spPick B.K) [] E0 tl) Γ Q := fun l0 l1 h =>
    ev_pickT fun σ H2 k2 o c => h σ H2 _ o fun vs H' ss o' kp r ⟨e, hv, q⟩ => c vs H' ss o' kp r ⟨_, _, e, ⟨hv, by rw [List.length_map]; exact List.length_pos_iff.mpr l0, by rw [List.length_map]; exact l1⟩, fun d hd => by
      obtain ⟨x, hx, rfl⟩ := mem_q hd
      exact q x hx⟩
  refine orS ?_ fun hX hb => ?_
  · walk_at "ev"
    refine ev_draw ?_
    walk_at "ev"
    refine ⟨_, _, rfl, ⟨hv, by decide, by decide⟩, fun k1 k10 k11 => ?_⟩
    walk_at "ev"
    refine ⟨fun _ => ?_, fun _ => ?_⟩
    · walk_at "ev"
      refine ev_mul ?_
      walk_at "ev"
      refine pt (l := qs1) (by decide) (by decide) ?_
      walk_at "ev"
      refine ⟨rfl, hv, fun k hk => ?_⟩
      obtain ⟨hk1, hk2⟩ := qs1_all k hk
      walk_at "ev"
      refine ⟨q, k, rfl, hq.mulC hk1 (by omega) (by omega), ?_⟩
      walk_at "ev"
      exact ⟨_, rfl, .circ x y (qmul q k), rfl, .inl ⟨hx, hy, hq.mul hk1, qmul_pos hqp hk2 hqq hk1.1.1⟩⟩
    · walk_at "ev"
      refine ev_add ?_
      walk_at "ev"
      refine pt (l := qs2) (by decide) (by decide) ?_
      walk_at "ev"
      refine ⟨rfl, hv, fun k hk => ?_⟩
      have hk1 := qs2_all k hk
      walk_at "ev"
      refine ⟨x, k, rfl, hx.addC hk1 (by omega) (by omega) (by omega), ?_⟩
      walk_at "ev"
      refine ev_add ?_
      walk_at "ev"
      refine ⟨y, (1, 1), rfl, hy.addC (qbi sz_1) (by omega) (by omega) (by omega), ?_⟩
      walk_at "ev"
      exact ⟨_, rfl, .circ (qadd x k) (qadd y (1, 1)) q, rfl, .inr (.inl ⟨hx.add hk1, hy.add (qbi sz_1), hq, hqp⟩)⟩
  · walk_at "ev"
    refine ⟨fun _ => hX, fun _ => ?_⟩
    walk_at "ev"
    refine ev_root ?_
    walk_at "ev"
    refine ⟨_, rfl, sq0.mono (by omega), ?_⟩
    walk_at "ev"
    refine ev_root ?_
    walk_at "ev"
    refine ⟨_, rfl, sq1.mono (by omega), ?_⟩
    walk_at "ev"
    refine pt (l := qs3) (by decide) (by decide) ?_
    walk_at "ev"
    refine ⟨rfl, hv, fun t ht => ?_⟩
    obtain ⟨ht1, ht2⟩ := qs3_all t ht
    walk_at "ev"
    refine ev_draw ?_
    walk_at "ev"
    refine ⟨_, _, rfl, ⟨hv, by decide, by decide⟩, fun k1 k10 k11 => ?_⟩
    walk_at "ev"
    refine two_ev (fun s => ∃ r : Qn, s = .dat (qD r) ∧ QW ((m + 1) / 2) ((e + 1) / 2) r) (fun _ => ?_) (fun _ => ?_) ?_
    · walk_at "ev"
      exact ⟨(isq q.1, isq q.2), rfl, qw⟩
    · refine ev_neg ?_
      walk_at "ev"
      exact ⟨(isq q.1, isq q.2), rfl, _, rfl, qw.neg⟩
    rintro _ ⟨r, rfl, hr⟩
    walk_at "ev"
    refine ev_pickT ?_
    walk_at "ev"
    refine ⟨_, _, rfl, ⟨hv, by simp, by simp⟩, fun d hd => ?_⟩
    obtain ⟨⟨w0, w1⟩, hw, rfl⟩ := mem_qq (l := ways) hd
    obtain ⟨hw0, hw1, hwn⟩ := ways_all _ hw
    simp only at hw0 hw1 hwn
    walk_at "ev"
    refine ⟨fun _ => ?_, fun _ => ?_⟩
    · walk_at "ev"
      refine ev_add ?_
      walk_at "ev"
      refine two_ev (fun s => ∃ t' : Qn, s = .dat (qD t') ∧ QB 2 2 t') (fun _ => ?_) (fun _ => ?_) ?_
      · walk_at "ev"
        exact ⟨_, rfl, ht1⟩
      · refine ev_neg ?_
        walk_at "ev"
        exact ⟨_, rfl, _, rfl, ht1.neg⟩
      rintro _ ⟨t', rfl, ht'⟩
      walk_at "ev"
      refine ⟨r, t', rfl, hr.addC ht'.w (by omega) (by omega) (by omega), ?_⟩
      have hf := hr.add ht'.w
      generalize qadd r t' = far at hf ⊢
      walk_at "ev"
      refine ev_add ?_
      walk_at "ev"
      refine ev_mul ?_
      walk_at "ev"
      refine ⟨far, w0, rfl, hf.mulC hw0 (by omega) (by omega), ?_⟩
      have hm0 := hf.mul hw0
      generalize qmul far w0 = x0 at hm0 ⊢
      walk_at "ev"
      refine ⟨x, x0, rfl, hx.addC hm0 (by omega) (by omega) (by omega), ?_⟩
      walk_at "ev"
      refine ev_add ?_
      walk_at "ev"
      refine ev_mul ?_
      walk_at "ev"
      refine ⟨far, w1, rfl, hf.mulC hw1 (by omega) (by omega), ?_⟩
      have hm1 := hf.mul hw1
      generalize qmul far w1 = x1 at hm1 ⊢
      walk_at "ev"
      refine ⟨y, x1, rfl, hy.addC hm1 (by omega) (by omega) (by omega), ?_⟩
      walk_at "ev"
      refine ev_mul ?_
      walk_at "ev"
      refine ⟨t, t, rfl, ht1.mulC ht1 (by omega) (by omega), ?_⟩
      walk_at "ev"
      exact ⟨_, rfl, .circ (qadd x x0) (qadd y x1) (qmul t t), rfl, .inr (.inr ⟨(hx.add hm0).mono (by omega) (by omega), (hy.add hm1).mono (by omega) (by omega), ht1.mul ht1, qmul_pos ht2 ht2 ht1.1.1 ht1.1.1⟩)⟩
    · walk_at "ev"
      refine ev_add ?_
      walk_at "ev"
      refine ev_mul ?_
      walk_at "ev"
      refine ⟨w0, x, rfl, hw0.mulC hx (by omega) (by omega), ?_⟩
      have hm0 := hw0.mul hx
      generalize qmul w0 x = x0 at hm0 ⊢
      walk_at "ev"
      refine ev_mul ?_
      walk_at "ev"
      refine ⟨w1, y, rfl, hw1.mulC hy (by omega) (by omega), ?_⟩
      have hm1 := hw1.mul hy
      generalize qmul w1 y = x1 at hm1 ⊢
      walk_at "ev"
      refine ⟨x0, x1, rfl, hm0.addC hm1 (by omega) (by omega) (by omega), ?_⟩
      have hf := hm0.add hm1
      generalize qadd x0 x1 = far at hf ⊢
      walk_at "ev"
      refine ⟨fun _ => ?_, fun _ => ?_⟩
      · walk_at "ev"
        exact ⟨_, rfl, .line w0 w1 far, rfl, hw0, hw1, hf.mono (by omega) (by omega), hwn⟩
      · refine ev_add ?_
        walk_at "ev"
        refine ⟨far, r, rfl, hf.w.addC hr (by omega) (by omega) (by omega), ?_⟩
        walk_at "ev"
        exact ⟨_, rfl, .line w0 w1 (qadd far r), rfl, hw0, hw1, (hf.w.add hr).mono (by omega) (by omega), hwn⟩
theorem ev_beside {B : Bx} {T : Th} {Γ : List Sl} {Q : Sl → Prop} {tl : TA} (h : EvA B T tl Γ fun ss => ∃ v x y q n d m e, ss = [.ref v, .dat (cD (.circ x y q))] ∧ (v ∈ B.As ∧ CircB n d m e x y q ∧ n ≤ 300 ∧ d ≤ 300 ∧ m ≤ 300 ∧ e ≤ 300) ∧ ∀ c, BesC n d m e c → Q (.dat (cD c))) : EvT B T (tCall (spW B.K S_beside) [] E0 tl) Γ Q :=
  ev_callW fun σ H k o c => h σ H _ o fun vs H' ss o' kp r ⟨v, x, y, q, n, d, m, e, e1, ⟨h1, h2, h3, h4, h5, h6⟩, hq⟩ => c vs H' ss o' kp r ⟨v, [cD (.circ x y q)], _, e1, h1, ⟨x, y, q, n, d, m, e, rfl, h2, ⟨h3, h4, h5, h6⟩, rfl⟩, fun d ⟨c, e, hc⟩ => by subst e; exact hq c hc⟩
theorem bes_2 {x y q : Qn} (h : CircB 3 3 5 3 x y q) {c : Cv} (hc : BesC 3 3 5 3 c) : Lv2 c := by
  cases c with
  | line a b c => exact LineB.mono hc (by decide) (by decide) (by decide) (by decide)
  | circ x y q =>
    rcases hc with hc | hc | hc
    · exact .inl (hc.mono (by decide) (by decide) (by decide) (by decide))
    · exact .inl (hc.mono (by decide) (by decide) (by decide) (by decide))
    · exact .inr (hc.mono (by decide) (by decide) (by decide) (by decide))
theorem bes_3a {c : Cv} (hc : BesC 5 4 75 68 c) : Lv3 c := by
  cases c with
  | line a b c => exact LineB.mono hc (by decide) (by decide) (by decide) (by decide)
  | circ x y q =>
    rcases hc with hc | hc | hc
    · exact .inl (hc.mono (by decide) (by decide) (by decide) (by decide))
    · exact .inl (hc.mono (by decide) (by decide) (by decide) (by decide))
    · exact .inr (hc.mono (by decide) (by decide) (by decide) (by decide))
theorem bes_3b {c : Cv} (hc : BesC 13 10 4 4 c) : Lv3 c := by
  cases c with
  | line a b c => exact LineB.mono hc (by decide) (by decide) (by decide) (by decide)
  | circ x y q =>
    rcases hc with hc | hc | hc
    · exact .inr (hc.mono (by decide) (by decide) (by decide) (by decide))
    · exact .inr (hc.mono (by decide) (by decide) (by decide) (by decide))
    · exact .inr (hc.mono (by decide) (by decide) (by decide) (by decide))
end
end Pl
end
section
set_option Elab.async false
set_option linter.all false
set_option maxRecDepth 100000
set_option autoImplicit false
set_option maxHeartbeats 1000000
/-! the law's curve through a crossing -/
namespace Pl
open PySem PySem.Spec PyProof.Rows L2
local macro_rules | `(tactic| walk_at "ev1") => `(tactic| first
  | with_reducible refine ev_var rfl ?_
  | with_reducible refine ev_ref rfl ?_
  | with_reducible refine ev_int ?_
  | with_reducible refine ev_str ?_
  | with_reducible refine ev_bl ?_
  | with_reducible refine ev_ty ?_
  | with_reducible refine ev_op ?_
  | with_reducible refine ev_un ?_
  | with_reducible refine ev_if ?_
  | with_reducible refine ev_tup ?_
  | with_reducible refine ev_lst ?_
  | with_reducible refine ev_cb ?_
  | with_reducible refine ev_andV ?_
  | with_reducible refine ev_orV ?_
  | with_reducible refine ev_notV ?_
  | with_reducible refine ec_val ?_
  | with_reducible refine ec_test ?_
  | with_reducible refine ec_not ?_
  | with_reducible refine ec_and ?_
  | with_reducible refine ec_or ?_
  | with_reducible refine ea_nil ?_
  | with_reducible refine ea_cons ?_
  | with_reducible refine es_seq ?_
  | with_reducible refine es_drop ?_
  | with_reducible refine es_ret ?_
  | with_reducible refine es_if ?_
  | with_reducible refine es_asg ?_
  | with_reducible refine es_asgG ?_
  | with_reducible refine es_par ?_
  | with_reducible refine es_par3 ?_
  | with_reducible refine es_next ?_
  | with_reducible refine eg_name (by (simp only [List.set_cons_succ, List.set_cons_zero]); exact rfl) ?_
  | with_reducible refine par_q (by (simp only [List.set_cons_succ, List.set_cons_zero]); exact rfl) ?_
  | with_reducible refine par_q3 (by (simp only [List.set_cons_succ, List.set_cons_zero]); exact rfl) ?_
  | with_reducible refine asg_dat (by (simp only [List.set_cons_succ, List.set_cons_zero]); exact rfl) ?_
  | with_reducible refine asg_ref (by (simp only [List.set_cons_succ, List.set_cons_zero]); exact rfl) ?_
  | with_reducible refine eg_tup rfl ?_
  | with_reducible refine eg_cons ?_
  | with_reducible refine eg_nil ?_
  | with_reducible refine tup_q2 ?_
  | with_reducible refine tup_q3 ?_
  | with_reducible refine tup_q4 ?_
  | with_reducible refine tup_q5 ?_
  | with_reducible refine tup_q8 ?_
  | with_reducible refine tup_q11 ?_
  | with_reducible refine tup_q0 ?_
  | with_reducible refine tup_q1 ?_
  | with_reducible refine tst ?_
  | with_reducible refine tun ?_
  | with_reducible refine r2_ix rfl ?_
  | with_reducible refine r2_i0 ?_
  | with_reducible refine r2_b0 ?_
  | with_reducible refine r2_eqI ?_
  | with_reducible refine r2_neI ?_
  | with_reducible refine r2_eqS ?_
  | with_reducible refine r2_neS ?_
  | with_reducible refine r2_subB ?_
  | with_reducible refine cb_gcd ?_
  | with_reducible refine cb_abs ?_
  | with_reducible refine cb_int ?_
  | with_reducible refine cb_lenT ?_)
local macro_rules | `(tactic| walk_at "sz") => `(tactic| first
  | assumption
  | with_reducible exact sz_0
  | with_reducible exact sz_1
  | with_reducible exact sz_2
  | with_reducible exact sz_4
  | with_reducible exact sz_m1
  | with_reducible exact Sz.mul (by walk_at "sz") (by walk_at "sz")
  | with_reducible exact Sz.add (by walk_at "sz") (by walk_at "sz")
  | with_reducible exact Sz.sub (by walk_at "sz") (by walk_at "sz")
  | with_reducible exact Sz.neg (by walk_at "sz"))
local macro_rules | `(tactic| walk_at "mulok") => `(tactic| first
  | assumption
  | exact mulok (by walk_at "sz") (by walk_at "sz") (by decide))
local macro_rules | `(tactic| walk_at "ev1") => `(tactic| (refine r2_i (C := CMulW) ?_ ?_; walk_at "mulok"))
local macro_rules | `(tactic| walk_at "ev") => `(tactic| repeat walk_at "ev1")
section
variable {P : Program} {w : World} {K : PySem.W.Frag} {mg : Str → Option Value} {base : Heap}
/-- two fractions over one below -/
def XY (α δ : Nat) (x y : Qn) : Prop := ∃ X Y E : Int, VB x X E ∧ VB y Y E ∧ Sz α X ∧ Sz α Y ∧ Sz δ E
theorem XY.pt {α δ : Nat} {x y : Qn} (h : QB 3 3 x) (g : QB 3 3 y) (l1 : 6 ≤ α) (l2 : 6 ≤ δ) : XY α δ x y := by
  have p1 := h.1.1
  have p2 := g.1.1
  exact ⟨x.1 * y.2, y.1 * x.2, x.2 * y.2, h.1.vb.conv (Int.mul_pos p1 p2) (by grind), g.1.vb.conv (Int.mul_pos p1 p2) (by grind), (h.2.1.mul g.2.2).mono l1, (g.2.1.mul h.2.2).mono l1, (h.2.2.mul g.2.2).mono l2⟩
theorem XY.b1 {α δ : Nat} {x y : Qn} (h : XY α δ x y) : QB α δ x := by
  obtain ⟨X, Y, E, h1, h2, s1, s2, s3⟩ := h
  exact .of_vb h1 s1 s3
theorem XY.b2 {α δ : Nat} {x y : Qn} (h : XY α δ x y) : QB α δ y := by
  obtain ⟨X, Y, E, h1, h2, s1, s2, s3⟩ := h
  exact .of_vb h2 s2 s3
theorem XY.line {α δ : Nat} {x y a b : Qn} (h : XY α δ x y) (ha : QB 4 2 a) (hb : QB 4 2 b) : QB (α + 7) (δ + 4) (qadd (qmul a x) (qmul b y)) := by
  obtain ⟨X, Y, E, h1, h2, s1, s2, s3⟩ := h
  have v := qadd_vb (qmul_vb ha.1.vb h1) (qmul_vb hb.1.vb h2)
  have pa := ha.1.1
  have pb := hb.1.1
  refine .of_vb (v.conv (D' := a.2 * b.2 * E) (N' := a.1 * b.2 * X + b.1 * a.2 * Y) (Int.mul_pos (Int.mul_pos pa pb) h1.pos) (by grind)) ?_ ?_
  · exact (((ha.2.1.mul hb.2.2).mul s1).add ((hb.2.1.mul ha.2.2).mul s2)).mono (by omega)
  · exact ((ha.2.2.mul hb.2.2).mul s3).mono (by omega)
theorem XY.sq {α δ : Nat} {x y u v : Qn} (h : XY α δ x y) (hu : QB 3 3 u) (hv : QB 3 3 v) : QB (2 * (max (α + 3) (3 + δ) + 1) + 7) (2 * δ + 12) (qadd (qmul (qadd x (qneg u)) (qadd x (qneg u))) (qmul (qadd y (qneg v)) (qadd y (qneg v)))) := by
  obtain ⟨X, Y, E, h1, h2, s1, s2, s3⟩ := h
  have n1 := qadd_vb h1 hu.neg.1.vb
  have n2 := qadd_vb h2 hv.neg.1.vb
  have v1 := qadd_vb (qmul_vb n1 n1) (qmul_vb n2 n2)
  have pu := hu.1.1
  have pv := hv.1.1
  have z1 : (qneg u).2 = u.2 := rfl
  have z2 : (qneg v).2 = v.2 := rfl
  rw [z1, z2] at v1
  have t1 : Sz (max (α + 3) (3 + δ) + 1) (X * u.2 + (qneg u).1 * E) := (s1.mul hu.2.2).add (hu.neg.2.1.mul s3)
  have t2 : Sz (max (α + 3) (3 + δ) + 1) (Y * v.2 + (qneg v).1 * E) := (s2.mul hv.2.2).add (hv.neg.2.1.mul s3)
  generalize X * u.2 + (qneg u).1 * E = m at *
  generalize Y * v.2 + (qneg v).1 * E = n at *
  refine .of_vb (v1.conv (D' := E * E * ((u.2 * v.2) * (u.2 * v.2))) (N' := (m * m) * (v.2 * v.2) + (n * n) * (u.2 * u.2)) (Int.mul_pos (Int.mul_pos h1.pos h1.pos) (Int.mul_pos (Int.mul_pos pu pv) (Int.mul_pos pu pv))) (by grind)) ?_ ?_
  · exact (((t1.mul t1).mul (hv.2.2.mul hv.2.2)).add ((t2.mul t2).mul (hu.2.2.mul hu.2.2))).mono (by omega)
  · exact ((s3.mul s3).mul ((hu.2.2.mul hv.2.2).mul (hu.2.2.mul hv.2.2))).mono (by omega)
/-- what through gives -/
def ThrC (α δ : Nat) : Cv → Prop
  | .line a b c => LineB 4 2 (α + 7) (δ + 4) a b c
  | .circ x y q => CircB 3 3 (2 * (max (α + 3) (3 + δ) + 1) + 7) (2 * δ + 12) x y q
def S_through (ds : List PyData) (P : PyData → Prop) : Prop := ∃ (pre : List PyData) (c e : Cv) (α δ β ρ : Nat), ds = pre ++ [cD c, cD e] ∧ pre.length ≤ 10 ∧ CvOk c ∧ CvOk e ∧ CvS 300 c ∧ CvS 300 e ∧ 6 ≤ α ∧ α ≤ 300 ∧ 6 ≤ δ ∧ δ ≤ 300 ∧
  (∀ z, z ∈ meet c e → SeatB α β ρ δ z) ∧ P = fun d => ∃ c, d = cD c ∧ ThrC α δ c
theorem atI_2 {pre : List PyData} {c e : PyData} : atI (pre ++ [c, e]) (-2) = some c := by
  have hl : (pre ++ [c, e]).length = pre.length + 2 := by simp
  unfold atI ixN
  rw [hl, if_neg (by omega), if_pos (by omega)]
  show (pre ++ [c, e])[(((pre.length + 2 : Nat) : Int) + -2).toNat]? = some c
  rw [show (((pre.length + 2 : Nat) : Int) + -2).toNat = pre.length by omega, List.getElem?_append_right (Nat.le_refl _), Nat.sub_self]
  rfl
theorem atI_1 {pre : List PyData} {c e : PyData} : atI (pre ++ [c, e]) (-1) = some e := by
  have hl : (pre ++ [c, e]).length = pre.length + 2 := by simp
  unfold atI ixN
  rw [hl, if_neg (by omega), if_pos (by omega)]
  show (pre ++ [c, e])[(((pre.length + 2 : Nat) : Int) + -1).toNat]? = some e
  rw [show (((pre.length + 2 : Nat) : Int) + -1).toNat = pre.length + 1 by omega, List.getElem?_append_right (by omega), Nat.add_sub_cancel_left]
  rfl
theorem sc_law_through : FnScope ["_law_well_here", "_law_some", "_law_x", "_law_y", "_law_seats", "_law_seat_here", "_law_a", "_law_b", "_law_u", "_law_v", "_law_far", "_law_high", "_law_square"] ["_law_well_here", "_law_some"] (defScope s_law_through) := ⟨rfl, rfl, rfl, by decide +kernel, rfl, by decide +kernel, by decide +kernel⟩
theorem bd_law_through : BindsOf "_law_through" s_law_through ["_law_well_here", "_law_some"] := fun _ _ _ _ _ _ us hl => match us, hl with | [_, _], _ => rfl
theorem ok_law_through (T : Tx K mg) (G_law_point : Gd P w K mg base 4 "_law_point" ["_law_well_here"] (spW K S_point)) (G_law_add : Gd P w K mg base 3 "_law_add" ["_law_one", "_law_two"] (spP K S_add)) (G_law_meet : Gd P w K mg base 3 "_law_meet" ["_law_one", "_law_two"] (spL K S_meet)) (G_law_draw : Gd P w K mg base 1 "_law_draw" ["_law_well_here", "_law_many"] (spW K S_draw)) (G_law_mul : Gd P w K mg base 3 "_law_mul" ["_law_one", "_law_two"] (spP K S_mul)) (G_law_line : Gd P w K mg base 4 "_law_line" ["_law_well_here"] (spW K S_line)) (G_law_neg : Gd P w K mg base 1 "_law_neg" ["_law_one"] (spP K S_neg)) (G_law_lean : Gd P w K mg base 2 "_law_lean" ["_law_top", "_law_low"] (spP K S_lean)) : Gd P w K mg base 5 "_law_through" ["_law_well_here", "_law_some"] (spWL K S_through) := by
  refine (T.dfn 53 rfl).gdWL sc_law_through bd_law_through rfl (by decide) ?_
  intro f cdv A outer s H E hr
  have nd := sc_law_through.nd
  refine ⟨_, (pss_cons (ps_asg (pe_callG G_law_point hr rfl (pa_cons (pv 0) pa_nil)) (pg_tup rfl (pgs_cons (pg_name (i := 2) nd rfl (Or.inl rfl)) (pgs_cons (pg_name (i := 3) nd rfl (Or.inl rfl)) pgs_nil))))
      (pss_cons (ps_set (i := 4) nd rfl (Or.inl rfl) (pe_ifExp (pt_cmpR op_gt (pe_callB call_len (by rfl) (T.free "len") (by decide +kernel) (pa_cons (pv 1) pa_nil)) pe_int (nomark _)) (pe_callG G_law_meet (hr.mono (by decide)) rfl (pa_cons (pe_ix ix_list (pv 1) (pe_un un_neg pe_int) (fun _ _ => rfl)) (pa_cons (pe_ix ix_list (pv 1) (pe_un un_neg pe_int) (fun _ _ => rfl)) pa_nil))) (pe_lst pa_nil)))
      (pss_cons (ps_for PassesOwn.never rfl (pi_list (pv 4)) (pg_name (i := 5) nd rfl (Or.inl rfl)) (pss_one (ps_if (PW.pt (pw_and (pt_cmpR op_eq (pe_ix ix_tup (pe_ix ix_tup (pv 5) pe_int (fun _ _ => rfl)) pe_int (fun _ _ => rfl)) pe_int (nomark _)) (pw_and1 (pt_cmpR op_eq (pe_ix ix_tup (pe_ix ix_tup (pv 5) pe_int (fun _ _ => rfl)) pe_int (fun _ _ => rfl)) pe_int (nomark _))))) (pss_one (ps_par (i := 2) (j := 3) (by rfl) nd rfl rfl (by decide) rfl rfl (pa_cons (pe_callG G_law_lean (hr.mono (by decide)) rfl (pa_cons (pe_ix ix_tup (pe_ix ix_tup (pv 5) pe_int (fun _ _ => rfl)) pe_int (fun _ _ => rfl)) (pa_cons (pe_ix ix_tup (pe_ix ix_tup (pv 5) pe_int (fun _ _ => rfl)) pe_int (fun _ _ => rfl)) pa_nil))) (pa_cons (pe_callG G_law_lean (hr.mono (by decide)) rfl (pa_cons (pe_ix ix_tup (pe_ix ix_tup (pv 5) pe_int (fun _ _ => rfl)) pe_int (fun _ _ => rfl)) (pa_cons (pe_ix ix_tup (pe_ix ix_tup (pv 5) pe_int (fun _ _ => rfl)) pe_int (fun _ _ => rfl)) pa_nil))) pa_nil)) (by rfl))) pss_nil)))
      (pss_cons (ps_if (pt_cmpR op_eq (pe_callG G_law_draw (hr.mono (by decide)) rfl (pa_cons (pv 0) (pa_cons pe_int pa_nil))) pe_int (nomark _)) (pss_cons (ps_asg (pe_slice sl_tup (pe_callG G_law_line hr rfl (pa_cons (pv 0) pa_nil)) (po_some pe_int) (po_some pe_int)) (pg_tup rfl (pgs_cons (pg_name (i := 6) nd rfl (Or.inl rfl)) (pgs_cons (pg_name (i := 7) nd rfl (Or.inl rfl)) pgs_nil))))
      (pss_one (ps_ret (pe_tup (pa_cons pe_str (pa_cons (pv 6) (pa_cons (pv 7) (pa_cons (pe_callG G_law_add (hr.mono (by decide)) rfl (pa_cons (pe_callG G_law_mul (hr.mono (by decide)) rfl (pa_cons (pv 6) (pa_cons (pv 2) pa_nil))) (pa_cons (pe_callG G_law_mul (hr.mono (by decide)) rfl (pa_cons (pv 7) (pa_cons (pv 3) pa_nil))) pa_nil))) pa_nil)))))))) pss_nil)
      (pss_cons (ps_asg (pe_callG G_law_point hr rfl (pa_cons (pv 0) pa_nil)) (pg_tup rfl (pgs_cons (pg_name (i := 8) nd rfl (Or.inl rfl)) (pgs_cons (pg_name (i := 9) nd rfl (Or.inl rfl)) pgs_nil))))
      (pss_cons (ps_par (i := 10) (j := 11) (by rfl) nd rfl rfl (by decide) rfl rfl (pa_cons (pe_callG G_law_add (hr.mono (by decide)) rfl (pa_cons (pv 2) (pa_cons (pe_callG G_law_neg (hr.mono (by decide)) rfl (pa_cons (pv 8) pa_nil)) pa_nil))) (pa_cons (pe_callG G_law_add (hr.mono (by decide)) rfl (pa_cons (pv 3) (pa_cons (pe_callG G_law_neg (hr.mono (by decide)) rfl (pa_cons (pv 9) pa_nil)) pa_nil))) pa_nil)) (by rfl))
      (pss_cons (ps_set (i := 12) nd rfl (Or.inl rfl) (pe_callG G_law_add (hr.mono (by decide)) rfl (pa_cons (pe_callG G_law_mul (hr.mono (by decide)) rfl (pa_cons (pv 10) (pa_cons (pv 10) pa_nil))) (pa_cons (pe_callG G_law_mul (hr.mono (by decide)) rfl (pa_cons (pv 11) (pa_cons (pv 11) pa_nil))) pa_nil))))
      (pss_one (ps_ret (pe_tup (pa_cons pe_str (pa_cons (pv 8) (pa_cons (pv 9) (pa_cons (pe_ifExp (pt_cmpR op_gt (pe_ix ix_tup (pv 12) pe_int (fun _ _ => rfl)) pe_int (nomark _)) (pv 12) (pe_tup (pa_cons pe_int (pa_cons pe_int pa_nil)))) pa_nil)))))))))))))), ?_⟩
  try simp only [cxK, cxN]
  intro v a ds Pd h
  change EvS _ _ _ [Sl.ref v, Sl.ref a, Sl.no, Sl.no, Sl.no, Sl.no, Sl.no, Sl.no, Sl.no, Sl.no, Sl.no, Sl.no, Sl.no] _ _
  obtain ⟨pre, c, e, α, δ, β, ρ, rfl, hl, oc, oe, sc, se, a1, a2, d1, d2, hz, rfl⟩ := h
  have hv : v ∈ (⟨K, [v], H⟩ : Bx).As := List.mem_singleton.mpr rfl
  have ha : (a, Cell.lst (pre ++ [cD c, cD e])) ∈ [(v, Cell.well), (a, Cell.lst (pre ++ [cD c, cD e]))] := by simp
  walk_at "ev"
  refine ev_point ?_
  walk_at "ev"
  refine ⟨_, rfl, hv, fun x y hx hy => ?_⟩
  walk_at "ev"
  refine cb_lenL (.inr ⟨a, rfl, .inl ha⟩) ?_
  walk_at "ev"
  refine brT (decide_eq_true (by simp; omega)) ?_
  refine ev_meet ?_
  walk_at "ev"
  refine r2_ixL ha (.inl rfl) atI_2 ?_
  walk_at "ev"
  refine r2_ixL ha (.inl rfl) atI_1 ?_
  walk_at "ev"
  refine ⟨c, e, rfl, ⟨oc, oe, sc, se⟩, ?_⟩
  have hlen : (seatsD (meet c e)).length = (meet c e).length := List.length_map ..
  refine asg_new (fun a' => rfl) fun sa hsa => ?_
  refine es_seq ?_
  refine es_for (fun j Γ' T' => T' = [(sa, Cell.own (seatsD (meet c e))), (v, Cell.well), (a, Cell.lst (pre ++ [cD c, cD e]))] ∧ ∃ (x y : Qn) (s : Sl), XY α δ x y ∧ Γ' = [Sl.ref v, Sl.ref a, Sl.dat (qD x), Sl.dat (qD y), Sl.ref sa, s, Sl.no, Sl.no, Sl.no, Sl.no, Sl.no, Sl.no, Sl.no]) ?_
  walk_at "ev"
  refine ⟨sa, seatsD (meet c e), rfl, ⟨rfl, x, y, _, XY.pt hx hy a1 d1, rfl⟩, fun j Γ' T' p => .inr (by rw [p.1]; simp), ?_, ?_⟩
  · rintro j d Γ' T' hd ⟨rfl, x, y, s, hxy, rfl⟩
    obtain ⟨z, hz1, rfl⟩ : ∃ z, z ∈ meet c e ∧ d = seatD z := by
      have := List.mem_of_getElem? hd
      obtain ⟨z, h1, h2⟩ := List.mem_map.mp this
      exact ⟨z, h1, h2.symm⟩
    obtain ⟨X, b, Y, e', r, D, rfl, hr, hD, h0, q1, q2, q3, q4, q5, q6⟩ := (hz z hz1).is
    simp only [List.set_cons_succ, List.set_cons_zero]
    have okD : ∀ t, Dok t D := fun t => .inl (q6.mono (by omega))
    have hend : ∀ T', T' = [(sa, Cell.own (seatsD (meet c e))), (v, Cell.well), (a, Cell.lst (pre ++ [cD c, cD e]))] → (T' = [(sa, Cell.own (seatsD (meet c e))), (v, Cell.well), (a, Cell.lst (pre ++ [cD c, cD e]))] ∧ ∃ (x' y' : Qn) (s' : Sl), XY α δ x' y' ∧ [Sl.ref v, Sl.ref a, Sl.dat (qD x), Sl.dat (qD y), Sl.ref sa, Sl.dat (seatD (seatOf X b Y e' r D)), Sl.no, Sl.no, Sl.no, Sl.no, Sl.no, Sl.no, Sl.no] = [Sl.ref v, Sl.ref a, Sl.dat (qD x'), Sl.dat (qD y'), Sl.ref sa, s', Sl.no, Sl.no, Sl.no, Sl.no, Sl.no, Sl.no, Sl.no]) := fun T' h => ⟨h, x, y, _, hxy, rfl⟩
    walk_at "ev"
    by_cases hb : b = 0
    · refine brT (decide_eq_true hb) ?_
      walk_at "ev"
      by_cases he : e' = 0
      · refine brT (decide_eq_true he) ?_
        walk_at "ev"
        refine ev_lean ?_
        walk_at "ev"
        refine ⟨_, _, rfl, ⟨hD, okD _⟩, ?_⟩
        walk_at "ev"
        refine ev_lean ?_
        walk_at "ev"
        refine ⟨_, _, rfl, ⟨hD, okD _⟩, ?_⟩
        walk_at "ev"
        exact ⟨rfl, ratio X D, ratio Y D, _, ⟨X, Y, D, ratio_vb hD, ratio_vb hD, q1, q2, q6⟩, rfl⟩
      · refine brF (decide_eq_false he) ?_
        walk_at "ev"
        exact hend _ rfl
    · refine brF (decide_eq_false hb) ?_
      refine ⟨fun z => (by cases z), fun _ => ?_⟩
      walk_at "ev"
      exact hend _ rfl
  · rintro Γ' T' ⟨rfl, x, y, s, hxy, rfl⟩
    have hqx := hxy.b1
    have hqy := hxy.b2
    walk_at "ev"
    refine ev_draw ?_
    walk_at "ev"
    refine ⟨_, _, rfl, ⟨hv, by decide, by decide⟩, fun n n0 n1 => ?_⟩
    walk_at "ev"
    refine ⟨fun _ => ?_, fun _ => ?_⟩
    · walk_at "ev"
      refine ev_slT (n := 4) (sl_int 1) (sl_int 3) (by decide) ?_
      refine ev_line ?_
      walk_at "ev"
      refine ⟨_, rfl, hv, fun l1 l2 l3 hL => ?_⟩
      refine ⟨_, [qD l1, qD l2], rfl, rfl, rfl, ?_⟩
      walk_at "ev"
      refine ev_add ?_
      walk_at "ev"
      refine ev_mul ?_
      walk_at "ev"
      refine ⟨l1, x, rfl, hL.1.mulC hqx (by omega) (by omega), ?_⟩
      walk_at "ev"
      refine ev_mul ?_
      walk_at "ev"
      refine ⟨l2, y, rfl, hL.2.1.mulC hqy (by omega) (by omega), ?_⟩
      walk_at "ev"
      refine ⟨_, _, rfl, (hL.1.mul hqx).addC (hL.2.1.mul hqy) (by omega) (by omega) (by omega), ?_⟩
      walk_at "ev"
      exact ⟨_, rfl, .line l1 l2 _, rfl, hL.1, hL.2.1, hxy.line hL.1 hL.2.1, hL.2.2.2⟩
    · walk_at "ev"
      refine ev_point ?_
      walk_at "ev"
      refine ⟨_, rfl, hv, fun u w' hu hw => ?_⟩
      walk_at "ev"
      refine ev_add ?_
      walk_at "ev"
      refine ev_neg ?_
      walk_at "ev"
      refine ⟨u, rfl, ?_⟩
      walk_at "ev"
      refine ⟨x, qneg u, rfl, hqx.addC hu.neg (by omega) (by omega) (by omega), ?_⟩
      walk_at "ev"
      refine ev_add ?_
      walk_at "ev"
      refine ev_neg ?_
      walk_at "ev"
      refine ⟨w', rfl, ?_⟩
      walk_at "ev"
      refine ⟨y, qneg w', rfl, hqy.addC hw.neg (by omega) (by omega) (by omega), ?_⟩
      have hs := hxy.sq hu hw
      have f1 := hqx.add hu.neg
      have f2 := hqy.add hw.neg
      generalize qadd x (qneg u) = far at *
      generalize qadd y (qneg w') = high at *
      walk_at "ev"
      refine ev_add ?_
      walk_at "ev"
      refine ev_mul ?_
      walk_at "ev"
      refine ⟨far, far, rfl, f1.mulC f1 (by omega) (by omega), ?_⟩
      walk_at "ev"
      refine ev_mul ?_
      walk_at "ev"
      refine ⟨high, high, rfl, f2.mulC f2 (by omega) (by omega), ?_⟩
      walk_at "ev"
      refine ⟨qmul far far, qmul high high, rfl, (f1.mul f1).addC (f2.mul f2) (by omega) (by omega) (by omega), ?_⟩
      generalize qadd (qmul far far) (qmul high high) = sq at *
      walk_at "ev"
      by_cases hp : 0 < sq.1
      · refine brT (decide_eq_true hp) ?_
        walk_at "ev"
        exact ⟨_, rfl, .circ u w' sq, rfl, hu, hw, hs, hp⟩
      · refine brF (decide_eq_false hp) ?_
        walk_at "ev"
        exact ⟨_, rfl, .circ u w' (1, 1), rfl, hu, hw, (qbi sz_1).mono (by omega) (by omega), (by decide : (0 : Int) < 1)⟩
theorem ev_through {B : Bx} {T : Th} {Γ : List Sl} {Q : Sl → Prop} {tl : TA} (h : EvA B T tl Γ fun ss => ∃ v a pre c e α δ β ρ, ss = [.ref v, .ref a] ∧ v ∈ B.As ∧ ((a, Cell.lst (pre ++ [cD c, cD e])) ∈ T ∨ (a, Cell.own (pre ++ [cD c, cD e])) ∈ T) ∧
    (pre.length ≤ 10 ∧ CvOk c ∧ CvOk e ∧ CvS 300 c ∧ CvS 300 e ∧ 6 ≤ α ∧ α ≤ 300 ∧ 6 ≤ δ ∧ δ ≤ 300 ∧ ∀ z, z ∈ meet c e → SeatB α β ρ δ z) ∧ ∀ c, ThrC α δ c → Q (.dat (cD c))) : EvT B T (tCall (spWL B.K S_through) [] E0 tl) Γ Q :=
  ev_callWL fun σ H k o cc => h σ H _ o fun vs H' ss o' kp r ⟨v, a, pre, c, e, α, δ, β, ρ, e1, h1, h2, ⟨l, oc, oe, sc, se, a1, a2, d1, d2, hz⟩, hq⟩ => cc vs H' ss o' kp r ⟨v, a, _, _, e1, h1, h2, ⟨pre, c, e, α, δ, β, ρ, rfl, l, oc, oe, sc, se, a1, a2, d1, d2, hz, rfl⟩, fun d ⟨c, e, hc⟩ => by subst e; exact hq c hc⟩
theorem thr_2 {c : Cv} (hc : ThrC 30 28 c) : Lv2 c := by
  cases c with
  | line a b c => exact LineB.mono hc (by decide) (by decide) (by decide) (by decide)
  | circ x y q => exact .inl (CircB.mono hc (by decide) (by decide) (by decide) (by decide))
theorem thr_3 {c : Cv} (hc : ThrC 98 95 c) : Lv3 c := by
  cases c with
  | line a b c => exact LineB.mono hc (by decide) (by decide) (by decide) (by decide)
  | circ x y q => exact .inl (CircB.mono hc (by decide) (by decide) (by decide) (by decide))
end
end Pl
end
section
set_option Elab.async false
set_option linter.all false
set_option maxRecDepth 100000
set_option autoImplicit false
set_option maxHeartbeats 1000000
/-! the law's further curves; the drawn seat -/
namespace Pl
open PySem PySem.Spec PyProof.Rows L2
local macro_rules | `(tactic| walk_at "ev1") => `(tactic| first
  | with_reducible refine ev_var rfl ?_
  | with_reducible refine ev_ref rfl ?_
  | with_reducible refine ev_int ?_
  | with_reducible refine ev_str ?_
  | with_reducible refine ev_bl ?_
  | with_reducible refine ev_ty ?_
  | with_reducible refine ev_op ?_
  | with_reducible refine ev_un ?_
  | with_reducible refine ev_if ?_
  | with_reducible refine ev_tup ?_
  | with_reducible refine ev_lst ?_
  | with_reducible refine ev_cb ?_
  | with_reducible refine ev_andV ?_
  | with_reducible refine ev_orV ?_
  | with_reducible refine ev_notV ?_
  | with_reducible refine ec_val ?_
  | with_reducible refine ec_test ?_
  | with_reducible refine ec_not ?_
  | with_reducible refine ec_and ?_
  | with_reducible refine ec_or ?_
  | with_reducible refine ea_nil ?_
  | with_reducible refine ea_cons ?_
  | with_reducible refine es_seq ?_
  | with_reducible refine es_drop ?_
  | with_reducible refine es_ret ?_
  | with_reducible refine es_if ?_
  | with_reducible refine es_asg ?_
  | with_reducible refine es_asgG ?_
  | with_reducible refine es_par ?_
  | with_reducible refine es_par3 ?_
  | with_reducible refine es_next ?_
  | with_reducible refine eg_name (by (simp only [List.set_cons_succ, List.set_cons_zero]); exact rfl) ?_
  | with_reducible refine par_q (by (simp only [List.set_cons_succ, List.set_cons_zero]); exact rfl) ?_
  | with_reducible refine par_q3 (by (simp only [List.set_cons_succ, List.set_cons_zero]); exact rfl) ?_
  | with_reducible refine asg_dat (by (simp only [List.set_cons_succ, List.set_cons_zero]); exact rfl) ?_
  | with_reducible refine asg_ref (by (simp only [List.set_cons_succ, List.set_cons_zero]); exact rfl) ?_
  | with_reducible refine eg_tup rfl ?_
  | with_reducible refine eg_cons ?_
  | with_reducible refine eg_nil ?_
  | with_reducible refine tup_q2 ?_
  | with_reducible refine tup_q3 ?_
  | with_reducible refine tup_q4 ?_
  | with_reducible refine tup_q5 ?_
  | with_reducible refine tup_q8 ?_
  | with_reducible refine tup_q11 ?_
  | with_reducible refine tup_q0 ?_
  | with_reducible refine tup_q1 ?_
  | with_reducible refine tst ?_
  | with_reducible refine tun ?_
  | with_reducible refine r2_ix rfl ?_
  | with_reducible refine r2_i0 ?_
  | with_reducible refine r2_b0 ?_
  | with_reducible refine r2_eqI ?_
  | with_reducible refine r2_neI ?_
  | with_reducible refine r2_eqS ?_
  | with_reducible refine r2_neS ?_
  | with_reducible refine r2_subB ?_
  | with_reducible refine cb_gcd ?_
  | with_reducible refine cb_abs ?_
  | with_reducible refine cb_int ?_
  | with_reducible refine cb_lenT ?_)
local macro_rules | `(tactic| walk_at "sz") => `(tactic| first
  | assumption
  | with_reducible exact sz_0
  | with_reducible exact sz_1
  | with_reducible exact sz_2
  | with_reducible exact sz_4
  | with_reducible exact sz_m1
  | with_reducible exact Sz.mul (by walk_at "sz") (by walk_at "sz")
  | with_reducible exact Sz.add (by walk_at "sz") (by walk_at "sz")
  | with_reducible exact Sz.sub (by walk_at "sz") (by walk_at "sz")
  | with_reducible exact Sz.neg (by walk_at "sz"))
local macro_rules | `(tactic| walk_at "mulok") => `(tactic| first
  | assumption
  | exact mulok (by walk_at "sz") (by walk_at "sz") (by decide))
local macro_rules | `(tactic| walk_at "ev1") => `(tactic| (refine r2_i (C := CMulW) ?_ ?_; walk_at "mulok"))
local macro_rules | `(tactic| walk_at "ev") => `(tactic| repeat walk_at "ev1")
section
variable {P : Program} {w : World} {K : PySem.W.Frag} {mg : Str → Option Value} {base : Heap}
theorem r2_neL {B : Bx} {T : Th} {Q : Sl → Prop} {a b : Sl} {ds es : List PyData} (ha : LstSl T a ds) (hb : LstSl T b es) (s1 : SeqAt.shaped (.list ds) = true) (s2 : SeqAt.shaped (.list es) = true) (q : Q (.dat (.bool (!PyData.eqv (.list ds) (.list es))))) : R2k B T (rNeD B.K) a b Q := fun x y H k t rx ry c => by
  obtain ⟨a, xs, rfl, hs, ra⟩ := ha.get t rx
  obtain ⟨b, ys, rfl, hs2, rb⟩ := hb.get t ry
  exact ⟨_, _, .lst (.inl (.inl hs)) ra.dp, .lst (.inl (.inl hs2)) rb.dp, s1, s2, c _ H _ t Kp.refl (rvB _) q⟩
theorem ix_tupK {X : Cx} {K : PySem.W.Frag} (h : X.K = K) : IxR X (rIxT K) := h ▸ ix_tup
def isC : PyData → Bool
  | .tuple (.str x :: _) => decide (x = "circle")
  | _ => false
theorem qD_inj {x y : Qn} (h : qD x = qD y) : x = y := by
  injection h with h
  injection h with h1 h2
  injection h2 with h2 _
  injection h1 with h1
  injection h2 with h2
  exact Prod.ext h1 h2
theorem circ_inj {x y q x' y' q' : Qn} (h : cD (.circ x y q) = cD (.circ x' y' q')) : (x, y, q) = (x', y', q') := by
  injection h with h
  injection h with _ h
  injection h with h1 h
  injection h with h2 h
  injection h with h3 _
  rw [qD_inj h1, qD_inj h2, qD_inj h3]
theorem line_circ {x y q x' y' q' : Qn} (h : cD (.circ x y q) = cD (.line x' y' q')) : False := by
  injection h with h
  injection h with h _
  injection h with h
  exact absurd h (by decide)
theorem isC_circ {x y q : Qn} : isC (cD (.circ x y q)) = true := show decide (("circle" : Str) = "circle") = true from by decide
theorem isC_line {x y q : Qn} : isC (cD (.line x y q)) = false := show decide (("line" : Str) = "circle") = false from by decide
theorem ok_circle : PyData.strOk "circle" = true := by decide +kernel
theorem ok_line : PyData.strOk "line" = true := by decide +kernel
theorem shaped_cD (c : Cv) : PyData.canLay0 (cD c) = true ∧ PyData.depth (cD c) = 2 := by
  cases c with
  | line x y q =>
    simp only [cD, PyData.canLay0, PyData.canLayAll0, PyData.depth, PyData.depthAll, ok_line]
    exact ⟨rfl, rfl⟩
  | circ x y q =>
    simp only [cD, PyData.canLay0, PyData.canLayAll0, PyData.depth, PyData.depthAll, ok_circle]
    exact ⟨rfl, rfl⟩
theorem shaped_c (c : Cv) : SeqAt.shaped (cD c) = true := by
  unfold SeqAt.shaped
  rw [(shaped_cD c).1, (shaped_cD c).2]
  rfl
theorem shaped_1 (c : Cv) : SeqAt.shaped (.list [cD c]) = true := by
  unfold SeqAt.shaped
  simp only [PyData.canLay0, PyData.canLayAll0, PyData.depth, PyData.depthAll, (shaped_cD c).1, (shaped_cD c).2]
  rfl
theorem shaped_2 (c e : Cv) : SeqAt.shaped (.list [cD c, cD e]) = true := by
  unfold SeqAt.shaped
  simp only [PyData.canLay0, PyData.canLayAll0, PyData.depth, PyData.depthAll, (shaped_cD c).1, (shaped_cD c).2, (shaped_cD e).1, (shaped_cD e).2]
  rfl
theorem flC {x y q : Qn} {l : List PyData} : (cD (.circ x y q) :: l).filter isC = cD (.circ x y q) :: l.filter isC := List.filter_cons_of_pos isC_circ
theorem flL {x y q : Qn} {l : List PyData} : (cD (.line x y q) :: l).filter isC = l.filter isC := List.filter_cons_of_neg (by rw [isC_line]; decide)
def S_curve (ds : List PyData) (P : PyData → Prop) : Prop := ∃ (Lv : Cv → Prop) (pre : List PyData) (c e : Cv) (α δ β ρ : Nat), ds = pre ++ [cD c, cD e] ∧
  (pre.length ≤ 10 ∧ CvOk c ∧ CvOk e ∧ CvS 300 c ∧ CvS 300 e ∧ 6 ≤ α ∧ α ≤ 300 ∧ 6 ≤ δ ∧ δ ≤ 300 ∧ ∀ z, z ∈ meet c e → SeatB α β ρ δ z) ∧
  (∀ d, d ∈ ds → ∃ c, d = cD c) ∧ (∀ x y q, cD (.circ x y q) ∈ ds → ∃ n d m e, CircB n d m e x y q ∧ n ≤ 300 ∧ d ≤ 300 ∧ m ≤ 300 ∧ e ≤ 300 ∧ ∀ c, BesC n d m e c → Lv c) ∧
  SeqAt.shaped (.list (ds.filter isC)) = true ∧ PyData.eqv (.list (ds.filter isC)) (.list []) = false ∧ 0 < (ds.filter isC).length ∧
  (∀ c, ThrC α δ c → Lv c) ∧ (∀ c, Lv1c c → Lv c) ∧ (∀ c, Lv1l c → Lv c) ∧ P = fun d => ∃ c, d = cD c ∧ Lv c
theorem sc_law_curve : FnScope ["_law_well_here", "_law_some", "_law_branch", "_law_rings", "_law_each"] ["_law_well_here", "_law_some"] (defScope s_law_curve) := ⟨rfl, rfl, rfl, by decide +kernel, rfl, by decide +kernel, by decide +kernel⟩
theorem bd_law_curve : BindsOf "_law_curve" s_law_curve ["_law_well_here", "_law_some"] := fun _ _ _ _ _ _ us hl => match us, hl with | [_, _], _ => rfl
theorem ok_law_curve (T : Tx K mg) (G_law_draw : Gd P w K mg base 1 "_law_draw" ["_law_well_here", "_law_many"] (spW K S_draw)) (G_law_beside : Gd P w K mg base 4 "_law_beside" ["_law_well_here", "_law_ring_here"] (spW K S_beside)) (G_law_through : Gd P w K mg base 5 "_law_through" ["_law_well_here", "_law_some"] (spWL K S_through)) (G_law_disc : Gd P w K mg base 5 "_law_disc" ["_law_well_here"] (spW K S_disc)) (G_law_line : Gd P w K mg base 4 "_law_line" ["_law_well_here"] (spW K S_line)) (G_law_pick : Gd P w K mg base 2 "_law_pick" ["_law_well_here", "_law_some"] (spPick K)) : Gd P w K mg base 6 "_law_curve" ["_law_well_here", "_law_some"] (spWL K S_curve) := by
  refine (T.dfn 54 rfl).gdWL sc_law_curve bd_law_curve rfl (by decide) ?_
  intro f cdv A outer s H E hr
  have nd := sc_law_curve.nd
  refine ⟨_, (pss_cons (ps_set (i := 2) nd rfl (Or.inl rfl) (pe_callG G_law_draw (hr.mono (by decide)) rfl (pa_cons (pv 0) (pa_cons pe_int pa_nil))))
      (pss_cons (ps_setLc (i := 3) (own := [("_law_each", 4)]) (g := gName 4) rfl nd rfl rfl (sw_true rfl rfl rfl (by decide +kernel)) (pi_list (pv 1)) (blkOk_by (own := [("_law_each", 4)]) (N := ["_law_well_here", "_law_some", "_law_branch", "_law_rings", "_law_each"]) (sc := defScope s_law_curve) (by decide +kernel)) (fun _ _ _ _ _ => pg_name (i := 4) nd rfl (Or.inl rfl)) (fun _ _ _ _ _ => pts_one (pt_cmpR op_eq (pe_ix (ix_tupK (K := K) rfl) (pv 4) pe_int (fun _ _ => rfl)) pe_str (nomark _))) (fun _ _ _ _ _ => (pv 4)))
      (pss_cons (ps_if (PW.pt (pw_and (pt_cmpR op_lt (pv 2) pe_int (nomark _)) (pw_and1 (pt_cmpR (op_neD hr.units) (pv 3) (pe_lst pa_nil) (nomark _))))) (pss_one (ps_ret (pe_callG G_law_beside (hr.mono (by decide)) rfl (pa_cons (pv 0) (pa_cons (pe_callG G_law_pick (hr.mono (by decide)) rfl (pa_cons (pv 0) (pa_cons (pv 3) pa_nil))) pa_nil))))) pss_nil)
      (pss_cons (ps_if (pt_cmpR op_lt (pv 2) pe_int (nomark _)) (pss_one (ps_ret (pe_callG G_law_through hr rfl (pa_cons (pv 0) (pa_cons (pv 1) pa_nil))))) pss_nil)
      (pss_one (ps_ret (pe_ifExp (pt_cmpR op_lt (pv 2) pe_int (nomark _)) (pe_callG G_law_disc hr rfl (pa_cons (pv 0) pa_nil)) (pe_callG G_law_line (hr.mono (by decide)) rfl (pa_cons (pv 0) pa_nil))))))))), ?_⟩
  try simp only [cxK, cxN]
  intro v a ds Pd h
  change EvS _ _ _ [Sl.ref v, Sl.ref a, Sl.no, Sl.no, Sl.no] _ _
  obtain ⟨Lv, pre, c, e, α, δ, β, ρ, eds, hthr, hall, hbes, sh, he, hne, t1, t2, t3, rfl⟩ := h
  have hv : v ∈ (⟨K, [v], H⟩ : Bx).As := List.mem_singleton.mpr rfl
  have ha : (a, Cell.lst ds) ∈ [(v, Cell.well), (a, Cell.lst ds)] := by simp
  have hlen : ds.length ≤ 12 := by rw [eds]; simp; omega
  have hlf : (ds.filter isC).length ≤ ds.length := List.length_filter_le ..
  walk_at "ev"
  refine ev_draw ?_
  walk_at "ev"
  refine ⟨_, _, rfl, ⟨hv, by decide, by decide⟩, fun n n0 n1 => ?_⟩
  walk_at "ev"
  refine ev_lcL (p := isC) (f := id) ?_
  walk_at "ev"
  refine ⟨a, ds, rfl, .inl ha, by omega, ?_, ?_, ?_⟩
  · intro d hd q
    obtain ⟨c', rfl⟩ := hall d hd
    simp only [List.set_cons_succ, List.set_cons_zero]
    cases c' with
    | line x y z =>
      walk_at "ev"
      rfl
    | circ x y z =>
      walk_at "ev"
      rfl
  · intro d hd hp q
    simp only [List.set_cons_succ, List.set_cons_zero]
    walk_at "ev"
    rfl
  rw [List.map_id]
  refine asg_new (fun a' => rfl) fun ra hra => ?_
  have hram : (ra, Cell.own (ds.filter isC)) ∈ [(ra, Cell.own (ds.filter isC)), (v, Cell.well), (a, Cell.lst ds)] := by simp
  have hlist : LstSl [(ra, Cell.own (ds.filter isC)), (v, Cell.well), (a, Cell.lst ds)] (.ref ra) (ds.filter isC) := .inr ⟨ra, rfl, .inr hram⟩
  walk_at "ev"
  refine ⟨fun h3 => ?_, fun h3 => ?_⟩
  · walk_at "ev"
    refine r2_neL hlist (.inl rfl) sh rfl ?_
    walk_at "ev"
    refine brT (by rw [he]; rfl) ?_
    walk_at "ev"
    refine ev_beside ?_
    walk_at "ev"
    refine ev_pickL ?_
    walk_at "ev"
    refine ⟨_, _, _, rfl, ⟨hv, hne, by omega, .inr hram⟩, fun d hd => ?_⟩
    obtain ⟨hd1, hd2⟩ := List.mem_filter.mp hd
    obtain ⟨c', rfl⟩ := hall d hd1
    cases c' with
    | line x y z => rw [isC_line] at hd2; cases hd2
    | circ x y z =>
      obtain ⟨n', d', m', e', hc, l1, l2, l3, l4, hb⟩ := hbes x y z hd1
      walk_at "ev"
      exact ⟨_, x, y, z, n', d', m', e', rfl, ⟨hv, hc, l1, l2, l3, l4⟩, fun c' hc' => ⟨_, rfl, c', rfl, hb c' hc'⟩⟩
  · refine ⟨fun z => (by cases z), fun _ => ?_⟩
    walk_at "ev"
    refine ⟨fun h5 => ?_, fun h5 => ?_⟩
    · walk_at "ev"
      refine ev_through ?_
      walk_at "ev"
      exact ⟨_, _, pre, c, e, α, δ, β, ρ, rfl, hv, .inl (by rw [eds]; simp), hthr, fun c' hc' => ⟨_, rfl, c', rfl, t1 c' hc'⟩⟩
    · walk_at "ev"
      refine ⟨fun h7 => ?_, fun h7 => ?_⟩
      · refine ev_disc ?_
        walk_at "ev"
        exact ⟨_, rfl, hv, fun c' hc' => ⟨_, rfl, c', rfl, t2 c' hc'⟩⟩
      · refine ev_line ?_
        walk_at "ev"
        exact ⟨_, rfl, hv, fun l1 l2 l3 hc' => ⟨_, rfl, _, rfl, t3 (.line l1 l2 l3) hc'⟩⟩
theorem Lv1c.ok {c : Cv} (h : Lv1c c) : CvOk c ∧ CvS 300 c := h.lv2.lv3.ok
theorem Lv1l.ok {c : Cv} (h : Lv1l c) : CvOk c ∧ CvS 300 c := h.lv2.lv3.ok
theorem cur_2 {A B' : Cv} (h1 : Lv1c A) (h2 : Lv1l B') : S_curve [cD A, cD B'] fun d => ∃ c, d = cD c ∧ Lv2 c := by
  cases A with
  | line _ _ _ => exact h1.elim
  | circ x y q =>
    cases B' with
    | circ _ _ _ => exact h2.elim
    | line a b c =>
      refine ⟨Lv2, [], _, _, 30, 28, 9, 43, rfl, ⟨by decide, h1.ok.1, h2.ok.1, h1.ok.2, h2.ok.2, by decide, by decide, by decide, by decide, fun z hz => meet_1 h1 h2 hz⟩, ?_, ?_, by rw [flC, flL]; exact shaped_1 _, by rw [flC, flL]; rfl, by rw [flC, flL]; exact Nat.zero_lt_one, fun c => thr_2, fun c => Lv1c.lv2, fun c => Lv1l.lv2, rfl⟩
      · intro d hd
        simp only [List.mem_cons, List.not_mem_nil, or_false] at hd
        rcases hd with rfl | rfl <;> exact ⟨_, rfl⟩
      · intro x' y' q' hd
        simp only [List.mem_cons, List.not_mem_nil, or_false] at hd
        rcases hd with hd | hd
        · have e : (x', y', q') = (x, y, q) := circ_inj hd
          cases e
          exact ⟨3, 3, 5, 3, h1, by decide, by decide, by decide, by decide, fun c hc => bes_2 h1 hc⟩
        · exact (line_circ hd).elim
theorem cur_3 {A B' C' : Cv} (h1 : Lv1c A) (h2 : Lv1l B') (h3 : Lv2 C') : S_curve [cD A, cD B', cD C'] fun d => ∃ c, d = cD c ∧ Lv3 c := by
  cases A with
  | line _ _ _ => exact h1.elim
  | circ x y q =>
    cases B' with
    | circ _ _ _ => exact h2.elim
    | line a b c =>
      refine ⟨Lv3, [cD (.circ x y q)], _, _, 98, 95, 9, 180, rfl, ⟨by simp, h2.ok.1, h3.lv3.ok.1, h2.ok.2, h3.lv3.ok.2, by decide, by decide, by decide, by decide, fun z hz => meet_2 h2 h3 hz⟩, ?_, ?_, ?_, ?_, ?_, fun c => thr_3, fun c hc => hc.lv2.lv3, fun c hc => hc.lv2.lv3, rfl⟩
      · intro d hd
        simp only [List.mem_cons, List.not_mem_nil, or_false] at hd
        rcases hd with rfl | rfl | rfl <;> exact ⟨_, rfl⟩
      · intro x' y' q' hd
        simp only [List.mem_cons, List.not_mem_nil, or_false] at hd
        rcases hd with hd | hd | hd
        · have e : (x', y', q') = (x, y, q) := circ_inj hd
          cases e
          exact ⟨3, 3, 5, 3, h1, by decide, by decide, by decide, by decide, fun c hc => (bes_2 h1 hc).lv3⟩
        · exact (line_circ hd).elim
        · cases C' with
          | line _ _ _ => exact (line_circ hd).elim
          | circ x2 y2 q2 =>
            have e : (x', y', q') = (x2, y2, q2) := circ_inj hd
            cases e
            rcases h3 with h3 | h3
            · exact ⟨5, 4, 75, 68, h3, by decide, by decide, by decide, by decide, fun c hc => bes_3a hc⟩
            · exact ⟨13, 10, 4, 4, h3, by decide, by decide, by decide, by decide, fun c hc => bes_3b hc⟩
      · cases C' with
        | line _ _ _ => rw [flC, flL, flL]; exact shaped_1 _
        | circ _ _ _ => rw [flC, flL, flC]; exact shaped_2 _ _
      · cases C' with
        | line _ _ _ => rw [flC, flL, flL]; rfl
        | circ _ _ _ => rw [flC, flL, flC]; rfl
      · rw [flC]
        exact Nat.succ_pos _
theorem ev_curve {B : Bx} {T : Th} {Γ : List Sl} {Q : Sl → Prop} {tl : TA} (h : EvA B T tl Γ fun ss => ∃ (v a : Addr) (ds : List PyData) (Lv : Cv → Prop), ss = [.ref v, .ref a] ∧ v ∈ B.As ∧ ((a, Cell.lst ds) ∈ T ∨ (a, Cell.own ds) ∈ T) ∧ S_curve ds (fun d => ∃ c, d = cD c ∧ Lv c) ∧ ∀ c, Lv c → Q (.dat (cD c))) : EvT B T (tCall (spWL B.K S_curve) [] E0 tl) Γ Q :=
  ev_callWL fun σ H k o cc => h σ H _ o fun vs H' ss o' kp r ⟨v, a, ds, Lv, e1, h1, h2, hs, hq⟩ => cc vs H' ss o' kp r ⟨v, a, ds, _, e1, h1, h2, hs, fun d ⟨c, e, hc⟩ => by subst e; exact hq c hc⟩
def S_seat_drawn : List PyData → (PyData → Prop) → Prop
  | [], P => P = fun d => ∃ z, d = seatD z ∧ SeatL z
  | _, _ => False
theorem sc_law_seat_drawn : FnScope ["_law_well_here", "_law_r", "_law_d", "_law_b"] ["_law_well_here"] (defScope s_law_seat_drawn) := ⟨rfl, rfl, rfl, by decide +kernel, rfl, by decide +kernel, by decide +kernel⟩
theorem bd_law_seat_drawn : BindsOf "_law_seat_drawn" s_law_seat_drawn ["_law_well_here"] := fun _ _ _ _ _ _ us hl => match us, hl with | [_], _ => rfl
theorem ok_law_seat_drawn (T : Tx K mg) (G_law_pick : Gd P w K mg base 2 "_law_pick" ["_law_well_here", "_law_some"] (spPick K)) (G_law_draw : Gd P w K mg base 1 "_law_draw" ["_law_well_here", "_law_many"] (spW K S_draw)) : Gd P w K mg base 3 "_law_seat_drawn" ["_law_well_here"] (spW K S_seat_drawn) := by
  refine (T.dfn 55 rfl).gdW (n := 0) sc_law_seat_drawn bd_law_seat_drawn (fun ds d h => match ds, h with | [], _ => rfl) rfl (by decide) ?_
  intro f cdv A outer s H E hr
  have nd := sc_law_seat_drawn.nd
  refine ⟨_, (pss_cons (ps_par (i := 1) (j := 2) (by rfl) nd rfl rfl (by decide) rfl rfl (pa_cons (pe_callG G_law_pick hr rfl (pa_cons (pv 0) (pa_cons (pe_tup (pa_cons pe_int (pa_cons pe_int (pa_cons pe_int (pa_cons pe_int (pa_cons pe_int (pa_cons pe_int (pa_cons pe_int (pa_cons pe_int pa_nil))))))))) pa_nil))) (pa_cons (pe_op op_add pe_int (pe_callG G_law_draw (hr.mono (by decide)) rfl (pa_cons (pv 0) (pa_cons pe_int pa_nil)))) pa_nil)) (by rfl))
      (pss_cons (ps_set (i := 3) nd rfl (Or.inl rfl) (pe_op op_sub (pe_callG G_law_draw (hr.mono (by decide)) rfl (pa_cons (pv 0) (pa_cons pe_int pa_nil))) pe_int))
      (pss_one (ps_ret (pe_tup (pa_cons (pe_tup (pa_cons (pe_op op_sub (pe_callG G_law_draw (hr.mono (by decide)) rfl (pa_cons (pv 0) (pa_cons pe_int pa_nil))) pe_int) (pa_cons (pv 3) (pa_cons (pv 1) (pa_cons (pv 2) pa_nil))))) (pa_cons (pe_tup (pa_cons (pe_op op_sub (pe_callG G_law_draw (hr.mono (by decide)) rfl (pa_cons (pv 0) (pa_cons pe_int pa_nil))) pe_int) (pa_cons (pe_op op_sub (pe_callG G_law_draw (hr.mono (by decide)) rfl (pa_cons (pv 0) (pa_cons pe_int pa_nil))) pe_int) (pa_cons (pv 1) (pa_cons (pv 2) pa_nil))))) pa_nil))))))), ?_⟩
  try simp only [cxK, cxN]
  intro v ds Pd h
  rcases ds with _ | ⟨z, zs⟩ <;> (try exact h.elim)
  change EvS _ _ _ [Sl.ref v, Sl.no, Sl.no, Sl.no] _ _
  have h : Pd = _ := h
  subst h
  have hv : v ∈ (⟨K, [v], H⟩ : Bx).As := List.mem_singleton.mpr rfl
  walk_at "ev"
  refine ev_pickT ?_
  walk_at "ev"
  refine ⟨_, _, rfl, ⟨hv, by simp, by simp⟩, fun d hd => ?_⟩
  have hr : ∃ r : Int, d = .int r ∧ 0 < r ∧ r < 16 := by
    simp only [List.mem_cons, List.not_mem_nil, or_false] at hd
    rcases hd with rfl | rfl | rfl | rfl | rfl | rfl | rfl | rfl <;> exact ⟨_, rfl, by decide, by decide⟩
  obtain ⟨r, rfl, r0, r1⟩ := hr
  walk_at "ev"
  refine ev_draw ?_
  walk_at "ev"
  refine ⟨_, _, rfl, ⟨hv, by decide, by decide⟩, fun k1 a1 b1 => ?_⟩
  walk_at "ev"
  refine ev_draw ?_
  walk_at "ev"
  refine ⟨_, _, rfl, ⟨hv, by decide, by decide⟩, fun k2 a2 b2 => ?_⟩
  walk_at "ev"
  refine ev_draw ?_
  walk_at "ev"
  refine ⟨_, _, rfl, ⟨hv, by decide, by decide⟩, fun k3 a3 b3 => ?_⟩
  walk_at "ev"
  refine ev_draw ?_
  walk_at "ev"
  refine ⟨_, _, rfl, ⟨hv, by decide, by decide⟩, fun k4 a4 b4 => ?_⟩
  walk_at "ev"
  refine ev_draw ?_
  walk_at "ev"
  refine ⟨_, _, rfl, ⟨hv, by decide, by decide⟩, fun k5 a5 b5 => ?_⟩
  walk_at "ev"
  have sz : ∀ {i : Int} {n : Nat}, 4 ≤ n → -16 < i → i < 16 → Sz n i := fun {i n} l h1 h2 => by
    have : Sz 4 i := by unfold Sz; omega
    exact this.mono l
  exact ⟨_, rfl, seatOf (k3 - 4) (k2 - 2) (k4 - 4) (k5 - 2) r (1 + k1), rfl, ⟨_, _, _, _, _, _, rfl, by omega, by omega, fun z => by omega, sz (by decide) (by omega) (by omega), sz (by decide) (by omega) (by omega), sz (by decide) (by omega) (by omega), sz (by decide) (by omega) (by omega), sz (by decide) (by omega) (by omega), sz (by decide) (by omega) (by omega)⟩⟩
theorem ev_seat_drawn {B : Bx} {T : Th} {Γ : List Sl} {Q : Sl → Prop} {tl : TA} (h : EvA B T tl Γ fun ss => ∃ v, ss = [.ref v] ∧ v ∈ B.As ∧ ∀ z, SeatL z → Q (.dat (seatD z))) : EvT B T (tCall (spW B.K S_seat_drawn) [] E0 tl) Γ Q :=
  ev_callW fun σ H k o c => h σ H _ o fun vs H' ss o' kp r ⟨v, e, h1, q⟩ => c vs H' ss o' kp r ⟨v, [], _, e, h1, rfl, fun d ⟨x, e, hx⟩ => by subst e; exact q x hx⟩
end
end Pl
end
section
set_option Elab.async false
set_option linter.all false
set_option maxRecDepth 100000
set_option autoImplicit false
/-! calls where nothing is being shown (guards = some []): repr needs it -/
namespace Pl
open PySem PySem.Spec PyProof.Rows L2
section
variable {P : Program} {w : World} {K : PySem.W.Frag} {mg : Str → Option Value} {base : Heap}
/-- a promise at such a place -/
structure FnG (P : Program) (w : World) (K : PySem.W.Frag) (mg : Str → Option Value) (base : Heap) (k : Nat) (f : Addr) (fd : FuncData) (ps : List Str) (sp : Sp) : Prop where
  run : ∀ (B : Around) (os : List Env) (t : Shared) (H : Hp) (as : Args) (us : List Value) (vs : List V) (Q : VK) (E : XK), B.guards = some [] → Room k B → Env0 P w K mg base B os t H → BindsTo t fd as (ps.zip us) → Vals vs us → sp vs H Q E →
    codeAny (model P w) B (.call (.ref f) as) (CR CX0 os P w H t Q E) t
theorem FunD.okG {x : Str} {st : Stmt} {N ps : List Str} {k : Nat} {sp : Sp} {f : Addr} {fd : FuncData} (F : FunD K x x (defArgs st) (defBody st) (defScope st) [] [] f fd) (S : FnScope N ps (defScope st)) (len : ∀ vs H Q E, sp vs H Q E → vs.length = ps.length)
    (hbody : ∀ (cdv : Value) (B : Around) (os : List Env) (t : Shared) (H : Hp) (vs : List V) (Q : VK) (E : XK), B.guards = some [] → Room k (B.deeper (envOfC x (defScope st) t.heap.objs.size f cdv)) → sp vs H Q E →
      ∃ r, PSs (cxOf CX0 P w K mg base N x (defScope st) f cdv B os t H E) (defBody st) r ∧ r { nx := fun _ H' => Q .non H', rt := Q } (L2.start N vs) H) : FnG P w K mg base (k + 1) f fd ps sp := by
  obtain ⟨_, _, _, _, _, _, _, cdv, _, _, rfl, lk, hcd, _⟩ := F.ex
  refine ⟨fun B os t H as us vs Q E hG room en bd rel hs => ?_⟩
  have vl := len _ _ _ _ hs
  have inK : K.In t.heap := en.mod.kin.keeps fun b o z => (en.bs b o z).1
  have noL : t.heap.NoLimit := en.mod.nolimit.keeps fun b o z => (en.bs b o z).1
  have kinds : ∀ q ∈ ps.zip us, (defScope st).names.lookup q.1 = some .local ∨ ((defScope st).names.lookup q.1 = some .cell ∧ ((cellsFrom (t.heap.objs.size + 1) (defScope st).names []).lookup q.1).isSome = true) := fun q hq => by
    rcases S.par q.1 (List.of_mem_zip hq).1 with z | z
    · exact .inl z
    · exact .inr ⟨z, PySem.W.cellsFrom_some _ _ _ (.inl z)⟩
  refine codeAny_call_function room.depth (inK _ _ lk) rfl S.co S.gen rfl (PySem.W.codeRec_of inK hcd) (bd _ _ _ _ ?_)
  refine wpAny_newFunctionEnv_cells S.kind kinds fun env he t1 cells => ?_
  subst he
  refine ⟨noL.keeps cells.toInCall.keep, codeAny_func ?_⟩
  obtain ⟨r, hr, hq⟩ := hbody cdv B os t H vs Q E hG (room.deeper _) hs
  have I : Inv (cxOf CX0 P w K mg base N x (defScope st) f cdv B os t H E) [] (L2.start N vs) H t1 := inv_start S room.hd en vl rel cells
  refine wpAny_mono (hr.run [] t1 (L2.start N vs) H _ I hq) (fun fl t2 hs => ?_) fun e t2 hs => hs
  cases fl with
  | ret u =>
    obtain ⟨v, _, H', J, rv, q⟩ := hs
    exact ⟨v, H', J.os, J.bare, J.base, J.hok, rv, q⟩
  | next =>
    obtain ⟨_, H', J, q⟩ := hs
    exact ⟨V.non, H', J.os, J.bare, J.base, J.hok, rfl, q⟩
  | brk => exact False.elim hs.choose_spec.choose_spec.2
  | cont => exact False.elim hs.choose_spec.choose_spec.2
theorem FunD.at_ {x : Str} {st : Stmt} {f : Addr} {fd : FuncData} (F : FunD K x x (defArgs st) (defBody st) (defScope st) [] [] f fd) : ∃ o : Obj, K.lookup f = some o ∧ o.data = .func fd := by
  obtain ⟨_, _, _, _, _, _, _, cdv, _, _, rfl, lk, hcd, _⟩ := F.ex
  exact ⟨_, lk, rfl⟩
/-- a def that keeps such a promise, by its name -/
structure GdG (P : Program) (w : World) (K : PySem.W.Frag) (mg : Str → Option Value) (base : Heap) (k : Nat) (x : Str) (ps : List Str) (sp : Sp) : Prop where
  ok : ∃ fd, FnG P w K mg base k (He.ga K x) fd ps sp ∧ (∀ vs H Q E, sp vs H Q E → vs.length = ps.length) ∧ Binds K fd ps [] ∧ PySem.W.keepIn K (.ref (He.ga K x)) = true ∧ ∃ o : Obj, K.lookup (He.ga K x) = some o ∧ o.data = .func fd
  gl : mg x = some (.ref (He.ga K x))
theorem pe_callGG {X : Cx} {x : Str} {k : Nat} {ps : List Str} {sp : Sp} {p pos : Pos} {e : Expr} {es : List Expr} {t : TA} (G : GdG X.prog X.w X.K X.mg X.base k x ps sp) (hG : X.A.guards = some []) (room : Room k X.A) (hg : Gl X x) (ha : PA X (e :: es) t)
    (nd : (x == ("__debug__" : Str)) = false := by decide) (st : starEach (e :: es) X.env = (false, eval e X.env) :: starEach es X.env := by rfl) (pl : (backTo pos (starEach es X.env)).any (·.1) = false := by rfl) :
    PE X (.Call (.Name x p) (e :: es) [] pos) (tCall sp [] E0 t) := by
  obtain ⟨fd, F, len, b, kp, _⟩ := G.ok
  refine ⟨fun pins s σ H Q I h => ?_⟩
  refine wpAny_Call_Name_kw (ld_glob I hg G.gl ?_ nd)
  refine PySem.W.callWith_K (h₀ := X.base) I.ok.mod.kin kp (thn (ha.run pos pins s σ H _ I h) fun us s1 ⟨vs, H1, I1, r, q⟩ => ⟨I1.kIn, ?_⟩) st pl
  have q : sp (vs ++ []) H1 Q E0 := q
  rw [List.append_nil] at q
  have hl : (us ++ []).length = ps.length := by rw [List.append_nil, ← r.length]; exact len _ _ _ _ q
  have hb := b s1 us I1.kIn hl
  rw [List.append_nil] at hb
  refine wpAny_call (codeAny_mono (F.run X.A X.stack s1 H1 ⟨us, []⟩ us vs Q E0 hG room I1.env0 hb r q) fun r s' hq => ?_)
  cases r with
  | error e => exact pass0 pins σ H1 s1 e s' I1 hq
  | ok fl =>
    cases fl with
    | ret u => exact I1.after hq
    | next => exact False.elim hq
    | brk => exact False.elim hq
    | cont => exact False.elim hq
theorem Dfn.gdG {x : Str} {st : Stmt} {N ps : List Str} {k : Nat} {sp : Sp} (D : Dfn K mg x st) (Sc : FnScope N ps (defScope st)) (hb : BindsOf x st ps) (len : ∀ vs H Q E, sp vs H Q E → vs.length = ps.length)
    (hbody : ∀ (f : Addr) (cdv : Value) (B : Around) (os : List Env) (t : Shared) (H : Hp) (E : XK), B.guards = some [] → Room k (B.deeper (envOfC x (defScope st) t.heap.objs.size f cdv)) →
      ∃ r, PSs (cxOf CX0 P w K mg base N x (defScope st) f cdv B os t H E).nox (defBody st) r ∧ ∀ vs Q, sp vs H Q E → r { nx := fun _ H' => Q .non H', rt := Q } (L2.start N vs) H) : GdG P w K mg base (k + 1) x ps sp := by
  obtain ⟨fd, F⟩ := D.fn
  have lk := FunD.at_ F
  refine ⟨⟨fd, FunD.okG F Sc len fun cdv B os t H vs Q E hG hr h => ?_, len, F.bindsN hb, F.kp, lk⟩, D.gl⟩
  obtain ⟨r, h1, h2⟩ := hbody _ cdv B os t H E hG hr
  exact ⟨r, h1.nox, h2 vs Q h⟩
/-- the law's call, from behind the top -/
theorem lawG {mb : Str → Option Value} {k : Nat} {fa a : Addr} {fd : FuncData} {x : Str} {sp : Sp} {t : Shared} {us : List Value} {ns : List Int}
    (inK : K.In t.heap) (nsG : t.heap.Ns mainGlobals mg) (nsB : t.heap.Ns builtinsNs mb) (bb : ∀ y : Str, y ≠ "__name__" → mb y = bootBuiltins y) (noL : t.heap.NoLimit) (gen : t.gens = #[])
    (ea : t.heap.get? a = some { cls := .type "list", data := .seq us.toArray }) (are : IntsAre us ns) (few : ns.length ≤ sizeLine) (room : Room k callerA)
    (F : ∀ base : Heap, K.In base → base.Ns mainGlobals mg → FnG P w K mg base k fa fd [x] sp) (bd : ∀ (t : Shared) (u : Value), BindsTo t fd ⟨[u], []⟩ [(x, u)])
    (hsp : ∀ H : Hp, Only H → SqL K H a (ns.map V.int) → sp [.ref a] H (fun v _ => v = .bl true) fun _ _ _ => False) :
    codeAny (model P w) callerA (.call (.ref fa) ⟨[.ref a], []⟩) (fun r t' => r = .ok (.ret (.bool true)) ∧ OldK t.heap t'.heap ∧ t'.os = t.os ∧ AllBare t'.gens) t := by
  have rel := vals_ints are
  have main : ∀ H : Hp, Only H → SqL K H a (ns.map V.int) → HOk P w H t.heap → (∀ b u, H b = some u → b = a ∧ K.lookup a = none) →
      codeAny (model P w) callerA (.call (.ref fa) ⟨[.ref a], []⟩) (fun r t' => r = .ok (.ret (.bool true)) ∧ OldK t.heap t'.heap ∧ t'.os = t.os ∧ AllBare t'.gens) t := by
    intro H only sq hok own
    have low : ∀ {b : Addr} {o : Obj}, t.heap.get? b = some o → H b = none → (hidT t.heap H).get? b = some o := fun z n => hidT_get z n
    have dictN : ∀ {b : Addr} {o : Obj} {es : Array DictEntry} {ep : Nat}, t.heap.get? b = some o → o.data = .dict es ep → H b = none := fun {b o es ep} z d => by
      cases q : H b with
      | none => rfl
      | some u =>
        obtain ⟨rfl, _⟩ := own b u q
        cases ea.symm.trans z
        cases (show Data.seq us.toArray _ = Data.dict es ep from d)
    have nsH : ∀ {b : Addr} {m : Str → Option Value}, t.heap.Ns b m → (hidT t.heap H).Ns b m := fun ⟨o, es, ep, z, d, r⟩ => ⟨o, es, ep, low z (dictN z d), d, r⟩
    have inH : K.In (hidT t.heap H) := fun b o z => low (inK b o z) (by
      cases q : H b with
      | none => rfl
      | some u =>
        obtain ⟨rfl, n⟩ := own b u q
        rw [n] at z
        cases z)
    have en : Env0 P w K mg (hidT t.heap H) callerA [] t H := ⟨rfl, ⟨inH, nsH nsG, ⟨mb, nsH nsB, bb⟩, let ⟨mc, h1, h2⟩ := noL; ⟨mc, nsH h1, h2⟩⟩, fun b o z => of_hidT z, Nat.le_of_eq (hidT_size _ _), trivial, fun b hb => absurd (show b ∈ ([] : List Addr) from hb) (by simp), hok, .of_eq gen⟩
    refine codeAny_mono ((F _ inH (nsH nsG)).run callerA [] t H ⟨[.ref a], []⟩ [.ref a] [.ref a] _ _ rfl room en (bd t (.ref a)) (.cons rfl .nil) (hsp H only sq)) fun r t' h => ?_
    match r, h with
    | .error e, h => exact (show False from h).elim
    | .ok .next, h => exact False.elim h
    | .ok .brk, h => exact False.elim h
    | .ok .cont, h => exact False.elim h
    | .ok (.ret u), h =>
      obtain ⟨v, H', os, bare, un, hok2, rv, q⟩ := h
      cases (show v = .bl true from q)
      cases (show u = Value.bool true from rv)
      refine ⟨rfl, OldK.of_keep fun b o z => ?_, os, bare⟩
      cases q : H b with
      | none => exact un.keep b o z q (fun z => nomatch (show b ∈ ([] : List Addr) from z)) (by simp)
      | some u =>
        rcases only b with n | ⟨ob, xs, n⟩
        · exact nomatch q.symm.trans n
        · obtain ⟨e1, _⟩ := hok b _ n
          obtain ⟨e2, _⟩ := hok2 b _ (un.frzs b ob _ n)
          cases z.symm.trans e1
          exact e2
  cases hk : K.lookup a with
  | some o =>
    have z := inK a o hk
    cases ea.symm.trans z
    exact main (fun _ => none) (fun _ => .inl rfl) (.inr ⟨_, us.toArray, _, hk, rfl, rfl, rfl, by rw [List.size_toArray, are.length]; exact few, by simpa using rel⟩) (fun b u z => nomatch (show (none : Option HO) = some u from z)) (fun b u z => nomatch (show (none : Option HO) = some u from z))
  | none =>
    have at_ : ∀ b, b = a → (fun b => if b = a then some (HO.frz { cls := .type "list", data := .seq us.toArray } (.lst (ns.map V.int))) else none) b = some (HO.frz { cls := .type "list", data := .seq us.toArray } (.lst (ns.map V.int))) := fun b z => if_pos z
    have off : ∀ b, b ≠ a → (fun b => if b = a then some (HO.frz { cls := .type "list", data := .seq us.toArray } (.lst (ns.map V.int))) else none) b = none := fun b z => if_neg z
    refine main (fun b => if b = a then some (.frz { cls := .type "list", data := .seq us.toArray } (.lst (ns.map V.int))) else none) (fun b => ?_) (.inl (.inr ⟨_, at_ a rfl⟩)) (fun b u z => ?_) (fun b u z => ?_)
    · rcases Classical.em (b = a) with e | e
      · exact .inr ⟨_, _, at_ b e⟩
      · exact .inl (off b e)
    · rcases Classical.em (b = a) with e | e
      · cases (at_ b e).symm.trans z
        subst e
        exact ⟨ea, by rw [List.length_map]; exact few, us, _, rel, ea⟩
      · cases (off b e).symm.trans z
    · rcases Classical.em (b = a) with e | e
      · exact ⟨e, hk⟩
      · cases (off b e).symm.trans z
/-- the end -/
theorem walkG {l : PySem.W.OpenLaw} {n k : Nat} {q : Program} {loose : List Str} {XP : (Str → Option Value) → Heap → Prop} {YP : World → Heap → Prop} {d : DefRec} {x : Str}
    (hn : l.most = some n) (hn2 : n ≤ sizeLine) (hdf : d.params.defaults = []) (room : Room k callerA)
    (told : ∀ (w : World) (mg : Str → Option Value) (fa : Addr) (h : Heap), YP w h → h.Ns mainGlobals mg → mg d.name = some (.ref fa) →
      ∃ (K : PySem.W.Frag) (fd : FuncData) (sp : Sp), K.In h ∧ (∀ (t : Shared) (u : Value), BindsTo t fd ⟨[u], []⟩ [(x, u)]) ∧
        (∀ (H : Hp) (a : Addr) (ms : List Int), ms.length ≤ n → Only H → SqL K H a (ms.map V.int) → sp [.ref a] H (fun v _ => v = .bl true) fun _ _ _ => False) ∧
        ∀ base : Heap, K.In base → base.Ns mainGlobals mg → FnG l.prog w K mg base k fa fd [x] sp) :
    PySem.W.WalkO q loose XP YP l.row.toRowW d [] (fun g us => PySem.call g us) := by
  refine Att.attach_call hn hdf fun w s₀ t mg mb fa o pm cd doc a vs ns G Y ho hd hcd hmg hobj hints hlen hg => ?_
  obtain ⟨K, fd, sp, inK, bd, hsp, hF⟩ := told w mg fa _ Y G.T.g hmg
  exact lawG inK G.T.g G.T.b G.T.builtins G.T.nolimit hg hobj hints (Nat.le_trans hlen hn2) room hF bd fun H hO hS => hsp H a ns hlen hO hS
end
end Pl
end
section
set_option Elab.async false
set_option linter.all false
set_option maxRecDepth 100000
set_option autoImplicit false
set_option maxHeartbeats 2000000
/-! the law's turn: one well's answer is right -/
namespace Pl
open PySem PySem.Spec PyProof.Rows L2
/-- what the program says of a seat's side agrees with the law's -/
structure Good (c : Cv) (z : Seat) : Prop where
  pl : PlOk (formed z.1) (formed z.2)
  ic : InC (formed z.1) (formed z.2)
  sb : SbC c (inOne (formed z.1) (formed z.2))
  eq : signBy c (inOne (formed z.1) (formed z.2)) = side c z
theorem Room.u65 {k : Nat} {A : Around} (r : Room k A) : A.units + 65 < cLine := by
  have := r.un
  omega
local macro_rules | `(tactic| walk_at "ev1") => `(tactic| first
  | with_reducible refine ev_var rfl ?_
  | with_reducible refine ev_ref rfl ?_
  | with_reducible refine ev_int ?_
  | with_reducible refine ev_str ?_
  | with_reducible refine ev_bl ?_
  | with_reducible refine ev_ty ?_
  | with_reducible refine ev_op ?_
  | with_reducible refine ev_un ?_
  | with_reducible refine ev_if ?_
  | with_reducible refine ev_tup ?_
  | with_reducible refine ev_lst ?_
  | with_reducible refine ev_cb ?_
  | with_reducible refine ev_andV ?_
  | with_reducible refine ev_orV ?_
  | with_reducible refine ev_notV ?_
  | with_reducible refine ec_val ?_
  | with_reducible refine ec_test ?_
  | with_reducible refine ec_not ?_
  | with_reducible refine ec_and ?_
  | with_reducible refine ec_or ?_
  | with_reducible refine ea_nil ?_
  | with_reducible refine ea_cons ?_
  | with_reducible refine es_seq ?_
  | with_reducible refine es_drop ?_
  | with_reducible refine es_ret ?_
  | with_reducible refine es_if ?_
  | with_reducible refine es_asg ?_
  | with_reducible refine es_asgG ?_
  | with_reducible refine es_par ?_
  | with_reducible refine es_par3 ?_
  | with_reducible refine es_next ?_
  | with_reducible refine eg_name (by (simp only [List.set_cons_succ, List.set_cons_zero]); exact rfl) ?_
  | with_reducible refine par_q (by (simp only [List.set_cons_succ, List.set_cons_zero]); exact rfl) ?_
  | with_reducible refine par_q3 (by (simp only [List.set_cons_succ, List.set_cons_zero]); exact rfl) ?_
  | with_reducible refine asg_dat (by (simp only [List.set_cons_succ, List.set_cons_zero]); exact rfl) ?_
  | with_reducible refine asg_ref (by (simp only [List.set_cons_succ, List.set_cons_zero]); exact rfl) ?_
  | with_reducible refine eg_tup rfl ?_
  | with_reducible refine eg_cons ?_
  | with_reducible refine eg_nil ?_
  | with_reducible refine tup_q2 ?_
  | with_reducible refine tup_q3 ?_
  | with_reducible refine tup_q4 ?_
  | with_reducible refine tup_q5 ?_
  | with_reducible refine tup_q8 ?_
  | with_reducible refine tup_q11 ?_
  | with_reducible refine tup_q0 ?_
  | with_reducible refine tup_q1 ?_
  | with_reducible refine tst ?_
  | with_reducible refine tun ?_
  | with_reducible refine r2_ix rfl ?_
  | with_reducible refine r2_i0 ?_
  | with_reducible refine r2_b0 ?_
  | with_reducible refine r2_eqI ?_
  | with_reducible refine r2_neI ?_
  | with_reducible refine r2_eqS ?_
  | with_reducible refine r2_neS ?_
  | with_reducible refine r2_subB ?_
  | with_reducible refine cb_gcd ?_
  | with_reducible refine cb_abs ?_
  | with_reducible refine cb_int ?_
  | with_reducible refine cb_lenT ?_)
local macro_rules | `(tactic| walk_at "sz") => `(tactic| first
  | assumption
  | with_reducible exact sz_0
  | with_reducible exact sz_1
  | with_reducible exact sz_2
  | with_reducible exact sz_4
  | with_reducible exact sz_m1
  | with_reducible exact Sz.mul (by walk_at "sz") (by walk_at "sz")
  | with_reducible exact Sz.add (by walk_at "sz") (by walk_at "sz")
  | with_reducible exact Sz.sub (by walk_at "sz") (by walk_at "sz")
  | with_reducible exact Sz.neg (by walk_at "sz"))
local macro_rules | `(tactic| walk_at "mulok") => `(tactic| first
  | assumption
  | exact mulok (by walk_at "sz") (by walk_at "sz") (by decide))
local macro_rules | `(tactic| walk_at "ev1") => `(tactic| (refine r2_i (C := CMulW) ?_ ?_; walk_at "mulok"))
local macro_rules | `(tactic| walk_at "ev") => `(tactic| repeat walk_at "ev1")
section
variable {P : Program} {w : World} {K : PySem.W.Frag} {mg : Str → Option Value} {base : Heap}
theorem es_seqP {B : Bx} {T : Th} {Γ : List Sl} {N : List Sl → Th → Prop} {R : Sl → Th → Prop} {t u : TS} (P : List Sl → Th → Prop) (h1 : EvS B T t Γ P R) (h2 : ∀ Γ' T', P Γ' T' → EvS B T' u Γ' N R) : EvS B T (tSeq t u) Γ N R := fun σ H D o c1 c2 =>
  h1 σ H _ o (fun σ' H' Γ' T' o' p => h2 Γ' T' p σ' H' D o' c1 c2) c2
theorem es_forA {B : Bx} {T : Th} {Γ : List Sl} {N : List Sl → Th → Prop} {R : Sl → Th → Prop} {te : TE} {t : TS} {i : Nat} (P : Addr → List PyData → Nat → List Sl → Th → Prop) (h : EvT B T te Γ fun s => ∃ ds, s = .new ds ∧ ∀ a, a ∉ T.map (·.1) → P a ds 0 Γ ((a, .own ds) :: T) ∧ (∀ j Γ' T', P a ds j Γ' T' → (a, Cell.own ds) ∈ T') ∧
    (∀ j d Γ' T', ds[j]? = some d → P a ds j Γ' T' → EvS B T' t (Γ'.set i (.dat d)) (P a ds (j + 1)) R) ∧ ∀ Γ' T', P a ds ds.length Γ' T' → N Γ' T') : EvS B T (tFor (iList B.K te) (gName i) t) Γ N R := fun σ H D o c1 c2 => h σ H _ o fun v H' s o' kp r ⟨ds, q1, q⟩ => by
  subst q1
  obtain ⟨a, xs0, rfl, n1, n2, e0, r0⟩ := r
  obtain ⟨q2, q3, q4, q5⟩ := q a n1
  have o'' : Ok B ((a, .own ds) :: T) σ H' Γ := ⟨o'.t.more n1 n2 e0 r0, o'.s⟩
  refine ⟨a, rfl, ⟨xs0, .inl (.inl e0)⟩, ?_⟩
  refine ⟨fun j m σ2 H2 => m = ds.length - j ∧ j ≤ ds.length ∧ ∃ Γ2 T2, Ok B T2 σ2 H2 Γ2 ∧ P a ds j Γ2 T2, ⟨ds.length, by simp, Nat.zero_le _, Γ, _, o'', q2⟩, ?_⟩
  rintro j m σ2 H2 ⟨rfl, hj, Γ2, T2, o2, p2⟩
  obtain ⟨_, xs, e, ra⟩ := o2.t.cells _ (q3 _ _ _ p2)
  have hlen := ra.length
  by_cases hlt : j < ds.length
  · have hx : j < xs.length := by omega
    refine .inr ⟨⟨xs, xs[j], .inl (.inl e), by simp [hx]⟩, fun σ3 H3 => ∃ Γ3 T3, Ok B T3 σ3 H3 Γ3 ∧ P a ds (j + 1) Γ3 T3, fun σ3 H3 p3 => ⟨ds.length - (j + 1), by omega, rfl, hlt, p3⟩, fun x H3 y => ?_⟩
    obtain ⟨e3, y⟩ := y
    subst e3
    have hxj := y xs (.inl (.inl e))
    obtain ⟨d, hd, rd'⟩ := ra.getV hxj
    exact q4 j d Γ2 T2 hd p2 _ H3 _ ⟨o2.t, o2.s.set rd'⟩ (fun σ4 H4 Γ4 T4 o4 n4 => ⟨Γ4, T4, o4, n4⟩) c2
  · have ej : j = ds.length := by omega
    subst ej
    exact .inl ⟨⟨xs, .inl (.inl e), by rw [hlen]; exact Nat.le_refl _⟩, c1 _ _ _ _ o2 (q5 _ _ p2)⟩
theorem ev_form {B : Bx} {T : Th} {Γ : List Sl} {Q : Sl → Prop} {tl : TA} (h : EvA B T tl Γ fun ss => ∃ c, ss = [.dat (cD c)] ∧ (CvOk c ∧ CvS 300 c) ∧ Q (.dat (formD c))) : EvT B T (tCall (spP B.K S_form) [] E0 tl) Γ Q :=
  ev_callP fun σ H k o c => h σ H _ o fun vs H' ss o' kp r ⟨x, e, ⟨h1, h2⟩, q⟩ => c vs H' ss o' kp r ⟨[cD x], _, e, ⟨x, rfl, h1, h2, rfl⟩, q⟩
theorem shaped_q (x : Qn) : PyData.canLay0 (qD x) = true ∧ PyData.depth (qD x) = 1 := ⟨rfl, rfl⟩
theorem shaped_f (c : Cv) : SeqAt.shaped (formD c) = true := by
  cases c with
  | circ x y q => exact shaped_c (.circ x y q)
  | line x y q =>
    unfold formD SeqAt.shaped
    simp only [PyData.canLay0, PyData.canLayAll0, PyData.depth, PyData.depthAll, ok_line]
    rfl
theorem textFrom_le : ∀ (ts : List Str) (k : Nat) (acc : Str), (textFrom k acc ts).length ≤ acc.length + piled ts
  | [], _, acc => by show acc.length ≤ acc.length + 0; omega
  | t :: r, k, acc => by
    have ih := textFrom_le r (k + 1) (acc ++ (if k > 0 then ", " else "" : String) ++ t)
    have e : (acc ++ (if k > 0 then ", " else "" : String) ++ t).length ≤ acc.length + 2 + t.length := by
      rw [strLen_append, strLen_append]
      split
      · exact Nat.le_refl _
      · show acc.length + 0 + t.length ≤ _
        omega
    rw [piled_cons]
    show (textFrom (k + 1) _ r).length ≤ _
    omega
/-- a list of small data: its repr is short -/
theorem shown_small : ∀ (ds : List PyData), (∀ d, d ∈ ds → d.showable = true ∧ d.hasDict = false ∧ d.depth = 0 ∧ d.shown.length ≤ 5) →
    PyData.showableAll ds = true ∧ PyData.hasDictAll ds = false ∧ PyData.depthAll ds = 0 ∧ piled (PyData.shownAll ds) ≤ 7 * ds.length
  | [], _ => ⟨rfl, rfl, rfl, Nat.le_refl _⟩
  | d :: ds, h => by
    obtain ⟨i1, i2, i3, i4⟩ := shown_small ds fun e he => h e (List.mem_cons_of_mem _ he)
    obtain ⟨h1, h2, h3, h4⟩ := h d List.mem_cons_self
    refine ⟨?_, ?_, ?_, ?_⟩
    · show (d.showable && PyData.showableAll ds) = true
      rw [h1, i1]; rfl
    · show (d.hasDict || PyData.hasDictAll ds) = false
      rw [h2, i2]; rfl
    · show max d.depth (PyData.depthAll ds) = 0
      rw [h3, i3]; rfl
    · show piled (d.shown :: PyData.shownAll ds) ≤ _
      rw [piled_cons, List.length_cons]
      omega
theorem small_1 : ∀ d ∈ [PyData.bool true, .int 0, .int 1, .int (-1)], d.showable = true ∧ d.hasDict = false ∧ d.depth = 0 ∧ d.shown.length ≤ 5 := by
  intro d hd
  simp only [List.mem_cons, List.not_mem_nil, or_false] at hd
  rcases hd with rfl | rfl | rfl | rfl <;> decide +kernel
theorem lsign_small (a b r : Int) : lsign a b r = 0 ∨ lsign a b r = 1 ∨ lsign a b r = -1 := by
  have hs : ∀ i : Int, sgn i = 0 ∨ sgn i = 1 ∨ sgn i = -1 := fun i => by
    unfold sgn
    split
    · exact .inr (.inl rfl)
    · split
      · exact .inr (.inr rfl)
      · exact .inl rfl
  have hm : ∀ i j : Int, sgn i * sgn j = 0 ∨ sgn i * sgn j = 1 ∨ sgn i * sgn j = -1 := fun i j => by
    rcases hs i with h | h | h <;> rcases hs j with g | g | g <;> rw [h, g] <;> simp
  unfold lsign
  obtain ⟨t, et, ht⟩ : ∃ t, (if 0 < r then sgn b else 0) = t ∧ (t = 0 ∨ t = 1 ∨ t = -1) := by
    refine ⟨_, rfl, ?_⟩
    split
    · exact hs b
    · exact .inl rfl
  simp only
  rw [et]
  split
  · exact hs a
  · split
    · exact ht
    · exact hm _ _
theorem side_small (c : Cv) (z : Seat) : side c z = 0 ∨ side c z = 1 ∨ side c z = -1 := by
  cases c <;> exact lsign_small _ _ _
/-- a curve back from its data -/
def unQ : PyData → Qn
  | .tuple [.int a, .int b] => (a, b)
  | _ => (0, 1)
def unC : PyData → Cv
  | .tuple [.str x, a, b, c] => if x = "line" then .line (unQ a) (unQ b) (unQ c) else .circ (unQ a) (unQ b) (unQ c)
  | _ => .line (0, 1) (0, 1) (0, 1)
theorem unC_cD (c : Cv) : unC (cD c) = c := by
  cases c with
  | line a b c => exact (if_pos rfl : (if (("line" : Str) = "line") then Cv.line a b c else .circ a b c) = .line a b c)
  | circ a b c => exact (if_neg (by decide) : (if (("circle" : Str) = "line") then Cv.line a b c else .circ a b c) = .circ a b c)
theorem chord_len (l : Int × Int × Int) (z : T4) : (chord l z).length ≤ 2 := by
  unfold chord
  simp only
  split
  · exact Nat.zero_le _
  · split
    · exact Nat.le_succ _
    · split <;> exact Nat.le_refl _
theorem meet_len (c e : Cv) : (meet c e).length ≤ 2 := by
  cases c with
  | line a b c =>
    cases e with
    | line a' b' c' =>
      show (crossLL _ _).length ≤ 2
      unfold crossLL
      simp only
      split
      · exact Nat.le_succ _
      · exact Nat.zero_le _
    | circ _ _ _ => exact chord_len _ _
  | circ x y q =>
    cases e with
    | line _ _ _ => exact chord_len _ _
    | circ x' y' q' =>
      have em : meet (.circ x y q) (.circ x' y' q') = if (axis (ring x y q) (ring x' y' q')).1 ≠ 0 ∨ (axis (ring x y q) (ring x' y' q')).2.1 ≠ 0 then chord (axis (ring x y q) (ring x' y' q')) (ring x y q) else [] := rfl
      rw [em]
      split
      · exact chord_len _ _
      · exact Nat.zero_le _
theorem seat_pt {x y : Qn} (hx : QB 3 3 x) (hy : QB 3 3 y) : SeatL ((x.1 * y.2, 0 * y.2, 0, x.2 * y.2), (y.1 * x.2, 0, 0, x.2 * y.2)) := by
  rw [Int.zero_mul]
  have z : ∀ n, 1 ≤ n → Sz n 0 := fun n h => sz_0.mono h
  exact ⟨x.1 * y.2, 0, y.1 * x.2, 0, 0, x.2 * y.2, rfl, Int.le_refl 0, Int.mul_pos hx.1.1 hy.1.1, fun _ => ⟨rfl, rfl⟩, (hx.2.1.mul hy.2.2).mono (by decide), (hy.2.1.mul hx.2.2).mono (by decide), z _ (by decide), z _ (by decide), z _ (by decide), (hx.2.2.mul hy.2.2).mono (by decide)⟩
theorem SeatL.c {z : Seat} (h : SeatL z) : SeatC z := by
  obtain ⟨x, b, y, e, r, d, rfl, h1, h2, h3, s1, s2, s3, s4, s5, s6⟩ := h.is
  exact ⟨h2, h2, ⟨s1.mono (by decide), s3.mono (by decide), s5.mono (by decide), s6.mono (by decide)⟩, ⟨s2.mono (by decide), s4.mono (by decide), s5.mono (by decide), s6.mono (by decide)⟩⟩
theorem lv3_neg {a b c : Qn} (h : Lv3 (.line a b c)) : Lv3 (.line (qneg a) (qneg b) (qneg c)) := by
  obtain ⟨h1, h2, h3, h4⟩ := h
  have inj : ∀ x : Qn, x ≠ (0, 1) → qneg x ≠ (0, 1) := fun x hx z => hx (by
    have e1 : 0 - x.1 = 0 := congrArg Prod.fst z
    have e2 : x.2 = 1 := congrArg Prod.snd z
    exact Prod.ext (show x.1 = 0 by omega) e2)
  exact ⟨h1.neg, h2.neg, h3.neg, h4.imp (inj _) (inj _)⟩
theorem seatsD_app (l m : List Seat) : seatsD l ++ seatsD m = seatsD (l ++ m) := List.map_append.symm
theorem repr_ok {cs : List Cv} {f : Cv → Int} (hl : cs.length ≤ 100) (hf : ∀ c, f c = 0 ∨ f c = 1 ∨ f c = -1) : (PyData.list (PyData.bool true :: cs.map fun c => .int (f c))).showable = true ∧ (PyData.list (PyData.bool true :: cs.map fun c => .int (f c))).hasDict = false ∧ (PyData.list (PyData.bool true :: cs.map fun c => .int (f c))).depth ≤ 64 ∧
    (PyData.list (PyData.bool true :: cs.map fun c => .int (f c))).shown.length ≤ sizeLine := by
  obtain ⟨h1, h2, h3, h4⟩ := shown_small (PyData.bool true :: cs.map fun c => .int (f c)) (fun d hd => by
    rcases List.mem_cons.mp hd with rfl | hd
    · exact small_1 _ (by simp)
    · obtain ⟨c, _, rfl⟩ := List.mem_map.mp hd
      refine small_1 _ ?_
      rcases hf c with e | e | e <;> rw [e] <;> simp)
  refine ⟨h1, h2, ?_, ?_⟩
  · show PyData.depthAll _ + 1 ≤ 64
    rw [h3]
    decide
  · have h5 := textFrom_le (PyData.shownAll (PyData.bool true :: cs.map fun c => .int (f c))) 0 "["
    rw [List.length_cons, List.length_map] at h4
    show (textFrom 0 "[" _ ++ "]").length ≤ sizeLine
    rw [strLen_append]
    have e1 : ("[" : Str).length = 1 := rfl
    have e2 : ("]" : Str).length = 1 := rfl
    have e3 : sizeLine = 16777216 := rfl
    omega
theorem ev_seat {B : Bx} {T : Th} {Γ : List Sl} {Q : Sl → Prop} {tl : TA} (h : EvA B T tl Γ fun ss => ∃ x y : Qn, ss = [.dat (ptD x y)] ∧ (Sz 4000 x.1 ∧ Sz 4000 x.2 ∧ Sz 4000 y.1 ∧ Sz 4000 y.2) ∧ Q (.dat (seatD ((x.1 * y.2, 0 * y.2, 0, x.2 * y.2), (y.1 * x.2, 0, 0, x.2 * y.2))))) : EvT B T (tCall (spP B.K S_seat) [] E0 tl) Γ Q :=
  ev_callP fun σ H k o c => h σ H _ o fun vs H' ss o' kp r ⟨x, y, e, ⟨h1, h2, h3, h4⟩, q⟩ => c vs H' ss o' kp r ⟨[ptD x y], _, e, ⟨x, y, rfl, h1, h2, h3, h4, rfl⟩, q⟩
theorem ev_place {B : Bx} {T : Th} {Γ : List Sl} {Q : Sl → Prop} {tl : TA} (h : EvA B T tl Γ fun ss => ∃ z : Seat, ss = [.dat (seatD z)] ∧ SeatC z ∧ Q (.dat (plD (formed z.1) (formed z.2)))) : EvT B T (tCall (spP B.K S_place) [] E0 tl) Γ Q :=
  ev_callP fun σ H k o c => h σ H _ o fun vs H' ss o' kp r ⟨z, e, h1, q⟩ => c vs H' ss o' kp r ⟨[seatD z], _, e, ⟨z, rfl, h1, rfl⟩, q⟩
def S_right : List PyData → (PyData → Prop) → Prop
  | [], P => P = fun d => d = .bool true
  | _, _ => False
theorem sc_law_right : FnScope ["_law_well_here", "_law_some", "_law_seats", "_law_curve_here", "_law_each", "_law_seat_here", "_law_place_here", "_law_told"] ["_law_well_here"] (defScope s_law_right) := ⟨rfl, rfl, rfl, by decide +kernel, rfl, by decide +kernel, by decide +kernel⟩
theorem bd_law_right : BindsOf "_law_right" s_law_right ["_law_well_here"] := fun _ _ _ _ _ _ us hl => match us, hl with | [_], _ => rfl
theorem ok_law_right (T : Tx K mg) (G_law_disc : Gd P w K mg base 5 "_law_disc" ["_law_well_here"] (spW K S_disc)) (G_law_line : Gd P w K mg base 4 "_law_line" ["_law_well_here"] (spW K S_line)) (G_law_curve : Gd P w K mg base 6 "_law_curve" ["_law_well_here", "_law_some"] (spWL K S_curve)) (G_law_seat_drawn : Gd P w K mg base 3 "_law_seat_drawn" ["_law_well_here"] (spW K S_seat_drawn)) (G_law_seat : Gd P w K mg base 3 "_law_seat" ["_law_place_here"] (spP K S_seat)) (G_law_form : Gd P w K mg base 2 "_law_form" ["_law_curve_here"] (spP K S_form)) (G_law_meet : Gd P w K mg base 3 "_law_meet" ["_law_one", "_law_two"] (spL K S_meet)) (G_law_place : Gd P w K mg base 4 "_law_place" ["_law_seat_here"] (spP K S_place)) (G_law_point : Gd P w K mg base 4 "_law_point" ["_law_well_here"] (spW K S_point)) (Gis_place : Gd P w K mg base 6 "is_place" ["value"] (spP K S_is_place)) (Gsign_at : Gd P w K mg base 7 "sign_at" ["curve", "place"] (spP K S_sign_at)) (G_law_side : Gd P w K mg base 3 "_law_side" ["_law_curve_here", "_law_seat_here"] (spP K S_side)) (G_law_neg : Gd P w K mg base 1 "_law_neg" ["_law_one"] (spP K S_neg)) (hgood : ∀ c z, Lv3 c → SeatL z → Good c z) : GdG P w K mg base 8 "_law_right" ["_law_well_here"] (spW K S_right) := by
  refine (T.dfn 56 rfl).gdG sc_law_right bd_law_right (fun vs H Q E h => (by obtain ⟨v, vs', ds, P, rfl, _, r, hs, _⟩ := h; rw [List.length_cons, r.length]; exact congrArg (· + 1) (show ds.length = 0 from match ds, hs with | [], _ => rfl))) ?_
  intro f cdv A outer s H E hgd hr
  have hu65 := Room.u65 hr
  have nd := sc_law_right.nd
  refine ⟨_, (pss_cons (ps_set (i := 1) nd rfl (Or.inl rfl) (pe_lst (pa_cons (pe_callG G_law_disc (hr.mono (by decide)) rfl (pa_cons (pv 0) pa_nil)) (pa_cons (pe_callG G_law_line (hr.mono (by decide)) rfl (pa_cons (pv 0) pa_nil)) pa_nil))))
      (pss_cons (ps_expr (pe_bm PySem.F.plainAttrs_list PySem.F.slot_list_append PySem.F.type_list_append mt_append (pv 1) (pa_cons (pe_callG G_law_curve (hr.mono (by decide)) rfl (pa_cons (pv 0) (pa_cons (pv 1) pa_nil))) pa_nil)))
      (pss_cons (ps_expr (pe_bm PySem.F.plainAttrs_list PySem.F.slot_list_append PySem.F.type_list_append mt_append (pv 1) (pa_cons (pe_callG G_law_curve (hr.mono (by decide)) rfl (pa_cons (pv 0) (pa_cons (pv 1) pa_nil))) pa_nil)))
      (pss_cons (ps_set (i := 2) nd rfl (Or.inl rfl) (pe_lst (pa_cons (pe_callG G_law_seat_drawn (hr.mono (by decide)) rfl (pa_cons (pv 0) pa_nil)) (pa_cons (pe_callG G_law_seat (hr.mono (by decide)) rfl (pa_cons (pe_callG G_law_point (hr.mono (by decide)) rfl (pa_cons (pv 0) pa_nil)) pa_nil)) pa_nil))))
      (pss_cons (ps_if (pt_cmpR (op_neD hr.units) (pe_callG G_law_form (hr.mono (by decide)) rfl (pa_cons (pe_ix ix_list (pv 1) pe_int (fun _ _ => rfl)) pa_nil)) (pe_callG G_law_form (hr.mono (by decide)) rfl (pa_cons (pe_ix ix_list (pv 1) pe_int (fun _ _ => rfl)) pa_nil)) (nomark _)) (pss_one (ps_set (i := 2) nd rfl (Or.inl rfl) (pe_op op_cat (pv 2) (pe_callG G_law_meet (hr.mono (by decide)) rfl (pa_cons (pe_ix ix_list (pv 1) pe_int (fun _ _ => rfl)) (pa_cons (pe_ix ix_list (pv 1) pe_int (fun _ _ => rfl)) pa_nil)))))) pss_nil)
      (pss_cons (ps_set (i := 2) nd rfl (Or.inl rfl) (pe_op op_cat (pv 2) (pe_callG G_law_meet (hr.mono (by decide)) rfl (pa_cons (pe_ix ix_list (pv 1) pe_int (fun _ _ => rfl)) (pa_cons (pe_ix ix_list (pv 1) pe_int (fun _ _ => rfl)) pa_nil)))))
      (pss_cons (ps_for PassesOwn.never rfl (pi_list (pe_callTy call_list_of (by rfl) (T.free "list") (by decide +kernel) (pa_cons (pv 1) pa_nil))) (pg_name (i := 3) nd rfl (Or.inl rfl)) (pss_one (ps_if (pt_cmpR op_eq (pe_ix ix_tup (pv 3) pe_int (fun _ _ => rfl)) pe_str (nomark _)) (pss_one (ps_expr (pe_bm PySem.F.plainAttrs_list PySem.F.slot_list_append PySem.F.type_list_append mt_append (pv 1) (pa_cons (pe_op op_catT (pe_tup (pa_cons pe_str pa_nil)) (pe_callTy call_tuple_of (by rfl) (T.free "tuple") (by decide +kernel) (pa_cons (pe_lc (own := [("_law_each", 4)]) (g := gName 4) rfl nd (pi_tup (pe_slice sl_tup (pv 3) (po_some pe_int) po_none)) (blkOk_by (own := [("_law_each", 4)]) (N := ["_law_well_here", "_law_some", "_law_seats", "_law_curve_here", "_law_each", "_law_seat_here", "_law_place_here", "_law_told"]) (sc := defScope s_law_right) (by decide +kernel)) (fun _ _ _ _ _ => pg_name (i := 4) nd rfl (Or.inl rfl)) (fun _ _ _ _ _ => pts_nil) (fun _ _ _ _ _ => (pe_callG G_law_neg (hr.mono (by decide)) rfl (pa_cons (pv 4) pa_nil)))) pa_nil))) pa_nil)))) pss_nil)))
      (pss_cons (ps_for PassesOwn.never rfl (pi_list (pv 2)) (pg_name (i := 5) nd rfl (Or.inr rfl)) (pss_cons (ps_set (i := 6) nd rfl (Or.inr rfl) (pe_callG G_law_place (hr.mono (by decide)) rfl (pa_cons (pv 5) pa_nil)))
      (pss_cons (ps_set (i := 7) nd rfl (Or.inl rfl) (pe_op op_cat (pe_lst (pa_cons (pe_callG Gis_place (hr.mono (by decide)) rfl (pa_cons (pv 6) pa_nil)) pa_nil)) (pe_lc (own := [("_law_each", 4)]) (g := gName 4) rfl nd (pi_list (pv 1)) (blkOk_by (own := [("_law_each", 4)]) (N := ["_law_well_here", "_law_some", "_law_seats", "_law_curve_here", "_law_each", "_law_seat_here", "_law_place_here", "_law_told"]) (sc := defScope s_law_right) (by decide +kernel)) (fun _ _ _ _ _ => pg_name (i := 4) nd rfl (Or.inl rfl)) (fun _ _ _ _ _ => pts_nil) (fun _ _ _ _ _ => (pe_callG Gsign_at hr rfl (pa_cons (pv 4) (pa_cons (pv 6) pa_nil)))))))
      (pss_one (ps_if (pt_cmpR op_ne (pe_callB (cr_repr hgd hu65) (by rfl) (T.free "repr") (by decide +kernel) (pa_cons (pv 7) pa_nil)) (pe_callB (cr_repr hgd hu65) (by rfl) (T.free "repr") (by decide +kernel) (pa_cons (pe_op op_cat (pe_lst (pa_cons pe_bl pa_nil)) (pe_lc (own := [("_law_each", 4)]) (g := gName 4) rfl nd (pi_list (pv 1)) (blkOk_by (own := [("_law_each", 4)]) (N := ["_law_well_here", "_law_some", "_law_seats", "_law_curve_here", "_law_each", "_law_seat_here", "_law_place_here", "_law_told"]) (sc := defScope s_law_right) (by decide +kernel)) (fun _ _ _ _ _ => pg_name (i := 4) nd rfl (Or.inl rfl)) (fun _ _ _ _ _ => pts_nil) (fun _ _ _ _ _ => (pe_callG G_law_side (hr.mono (by decide)) rfl (pa_cons (pv 4) (pa_cons (pv 5) pa_nil)))))) pa_nil)) (nomark _)) (pss_one (ps_ret pe_bl)) pss_nil)))))
      (pss_one (ps_ret pe_bl)))))))))), ?_⟩
  try simp only [cxK, cxN]
  intro vs Q h
  refine body_W (n := 0) (by decide) h (fun ds d h => match ds, h with | [], _ => rfl) ?_
  intro v ds Pd h
  rcases ds with _ | ⟨z, zs⟩ <;> (try exact h.elim)
  change EvS _ _ _ [Sl.ref v, Sl.no, Sl.no, Sl.no, Sl.no, Sl.no, Sl.no, Sl.no] _ _
  have h : Pd = _ := h
  subst h
  have hv : v ∈ (⟨K, [v], H⟩ : Bx).As := List.mem_singleton.mpr rfl
  walk_at "ev"
  refine ev_disc ?_
  walk_at "ev"
  refine ⟨_, rfl, hv, fun cA hA => ?_⟩
  walk_at "ev"
  refine ev_line ?_
  walk_at "ev"
  refine ⟨_, rfl, hv, fun la lb lc hB => ?_⟩
  walk_at "ev"
  have hB : Lv1l (.line la lb lc) := hB
  generalize Cv.line la lb lc = cB at hB ⊢
  refine asg_new (fun a' => rfl) fun sa hsa => ?_
  simp only [List.set_cons_succ, List.set_cons_zero]
  refine es_seq (es_append ?_)
  walk_at "ev"
  refine ⟨sa, [], [(v, .well)], _, rfl, rfl, by simp, ?_⟩
  refine ev_curve ?_
  walk_at "ev"
  refine ⟨_, _, _, _, rfl, hv, .inr (by simp), cur_2 hA hB, fun cC hC => ?_⟩
  refine ⟨_, rfl, ?_⟩
  simp only [List.nil_append, List.cons_append]
  refine es_seq (es_append ?_)
  walk_at "ev"
  refine ⟨sa, [], [(v, .well)], _, rfl, rfl, by simp, ?_⟩
  refine ev_curve ?_
  walk_at "ev"
  refine ⟨_, _, _, _, rfl, hv, .inr (by simp), cur_3 hA hB hC, fun cE hE => ?_⟩
  refine ⟨_, rfl, ?_⟩
  simp only [List.nil_append, List.cons_append]
  walk_at "ev"
  refine ev_seat_drawn ?_
  walk_at "ev"
  refine ⟨_, rfl, hv, fun z1 hz1 => ?_⟩
  walk_at "ev"
  refine ev_seat ?_
  walk_at "ev"
  refine ev_point ?_
  walk_at "ev"
  refine ⟨_, rfl, hv, fun px py hpx hpy => ?_⟩
  walk_at "ev"
  refine ⟨px, py, rfl, ⟨hpx.2.1.mono (by decide), hpx.2.2.mono (by decide), hpy.2.1.mono (by decide), hpy.2.2.mono (by decide)⟩, ?_⟩
  have hz2 := seat_pt hpx hpy
  generalize (((px.1 * py.2, 0 * py.2, 0, px.2 * py.2), (py.1 * px.2, 0, 0, px.2 * py.2)) : Seat) = z2 at hz2 ⊢
  walk_at "ev"
  refine asg_new (fun a' => rfl) fun ss hss => ?_
  simp only [List.set_cons_succ, List.set_cons_zero]
  refine es_seqP (fun Γ' T' => ∃ (s2 : Addr) (l : List Seat) (pre : Th), (∀ z ∈ l, SeatL z) ∧ l.length ≤ 4 ∧ T' = (s2, Cell.own (seatsD l)) :: (pre ++ (sa, Cell.own [cD cA, cD cB, cD cC, cD cE]) :: [(v, Cell.well)]) ∧ Γ' = [Sl.ref v, Sl.ref sa, Sl.ref s2, Sl.no, Sl.no, Sl.no, Sl.no, Sl.no]) ?_ ?_
  · have hin : (sa, Cell.own [cD cA, cD cB, cD cC, cD cE]) ∈ [(ss, Cell.own [seatD z1, seatD z2]), (sa, Cell.own [cD cA, cD cB, cD cC, cD cE]), (v, Cell.well)] := by simp
    walk_at "ev"
    refine ev_form ?_
    walk_at "ev"
    refine r2_ixL hin (.inr rfl) (d := cD cC) rfl ?_
    walk_at "ev"
    refine ⟨cC, rfl, hC.lv3.ok, ?_⟩
    walk_at "ev"
    refine ev_form ?_
    walk_at "ev"
    refine r2_ixL hin (.inr rfl) (d := cD cE) rfl ?_
    walk_at "ev"
    refine ⟨cE, rfl, hE.ok, ?_⟩
    walk_at "ev"
    refine r2_neD (shaped_f _) (shaped_f _) ?_
    walk_at "ev"
    refine ⟨fun _ => ?_, fun _ => ?_⟩
    · walk_at "ev"
      refine ev_meet ?_
      walk_at "ev"
      refine r2_ixL hin (.inr rfl) (d := cD cC) rfl ?_
      walk_at "ev"
      refine r2_ixL hin (.inr rfl) (d := cD cE) rfl ?_
      walk_at "ev"
      refine ⟨cC, cE, rfl, ⟨hC.lv3.ok.1, hE.ok.1, hC.lv3.ok.2, hE.ok.2⟩, ?_⟩
      have ml := meet_len cC cE
      refine r2_cat (ds := seatsD [z1, z2]) (es := seatsD (meet cC cE)) (.inr ⟨ss, rfl, .inr (by simp)⟩) (.inl rfl) (by rw [List.length_map, List.length_map]; show 2 + _ ≤ _; omega) ?_
      rw [seatsD_app]
      refine asg_new (fun a' => rfl) fun s3 hs3 => ?_
      simp only [List.set_cons_succ, List.set_cons_zero]
      refine ⟨s3, [z1, z2] ++ meet cC cE, [(ss, Cell.own [seatD z1, seatD z2])], ?_, ?_, rfl, rfl⟩
      · intro z hz
        rcases List.mem_append.mp hz with hz | hz
        · simp only [List.mem_cons, List.not_mem_nil, or_false] at hz
          rcases hz with rfl | rfl
          · exact hz1
          · exact hz2
        · exact meet_3 hC hE hz
      · rw [List.length_append]
        show 2 + _ ≤ 4
        omega
    · walk_at "ev"
      refine ⟨ss, [z1, z2], [], ?_, by simp, rfl, rfl⟩
      intro z hz
      simp only [List.mem_cons, List.not_mem_nil, or_false] at hz
      rcases hz with rfl | rfl
      · exact hz1
      · exact hz2
  · rintro _ _ ⟨s2, l, pre, hl, hll, rfl, rfl⟩
    have hin : (sa, Cell.own [cD cA, cD cB, cD cC, cD cE]) ∈ (s2, Cell.own (seatsD l)) :: (pre ++ (sa, Cell.own [cD cA, cD cB, cD cC, cD cE]) :: [(v, Cell.well)]) := by simp
    walk_at "ev"
    refine ev_meet ?_
    walk_at "ev"
    refine r2_ixL hin (.inr rfl) (d := cD cA) rfl ?_
    walk_at "ev"
    refine r2_ixL hin (.inr rfl) (d := cD cB) rfl ?_
    walk_at "ev"
    refine ⟨cA, cB, rfl, ⟨hA.ok.1, hB.ok.1, hA.ok.2, hB.ok.2⟩, ?_⟩
    have ml := meet_len cA cB
    refine r2_cat (ds := seatsD l) (es := seatsD (meet cA cB)) (.inr ⟨s2, rfl, .inr (by simp)⟩) (.inl rfl) (by rw [List.length_map, List.length_map]; omega) ?_
    rw [seatsD_app]
    have hl2 : ∀ z ∈ l ++ meet cA cB, SeatL z := fun z hz => by
      rcases List.mem_append.mp hz with hz | hz
      · exact hl z hz
      · exact meet_3 hA.lv2 hB.lv2.lv3 hz
    have hl3 : (l ++ meet cA cB).length ≤ 6 := by
      rw [List.length_append]
      omega
    generalize l ++ meet cA cB = l2 at hl2 hl3 ⊢
    refine asg_new (fun a' => rfl) fun s3 hs3 => ?_
    simp only [List.set_cons_succ, List.set_cons_zero]
    refine es_seqP (fun Γ' T' => ∃ (cs : List Cv) (x : Sl), cs ≠ [] ∧ (∀ c ∈ cs, Lv3 c) ∧ cs.length ≤ 8 ∧ (s3, Cell.own (seatsD l2)) ∈ T' ∧ (sa, Cell.own (cs.map fun c => cD c)) ∈ T' ∧ Γ' = [Sl.ref v, Sl.ref sa, Sl.ref s3, x, Sl.no, Sl.no, Sl.no, Sl.no]) ?_ ?_
    · refine es_forA (fun c4 _ j Γ' T' => ∃ (cs : List Cv) (x : Sl), cs ≠ [] ∧ (∀ c ∈ cs, Lv3 c) ∧ cs.length ≤ 4 + j ∧ T' = ((c4, Cell.own [cD cA, cD cB, cD cC, cD cE]) :: (s3, Cell.own (seatsD l2)) :: (s2, Cell.own (seatsD l)) :: pre) ++ (sa, Cell.own (cs.map fun c => cD c)) :: [(v, Cell.well)] ∧ Γ' = [Sl.ref v, Sl.ref sa, Sl.ref s3, x, Sl.no, Sl.no, Sl.no, Sl.no]) ?_
      walk_at "ev"
      refine cb_lstOf (ds := [cD cA, cD cB, cD cC, cD cE]) (.inr ⟨sa, rfl, .inr (by simp)⟩) ?_
      refine ⟨_, rfl, fun c4 hc4 => ⟨⟨[cA, cB, cC, cE], Sl.no, by simp, ?_, by simp, by simp, rfl⟩, ?_, ?_, ?_⟩⟩
      · intro c hc
        simp only [List.mem_cons, List.not_mem_nil, or_false] at hc
        rcases hc with rfl | rfl | rfl | rfl
        · exact hA.lv2.lv3
        · exact hB.lv2.lv3
        · exact hC.lv3
        · exact hE
      · rintro j Γ' T' ⟨cs, x, h0, h1, h2, rfl, h4⟩
        simp
      · rintro j d Γ' T' hd ⟨cs, x, h0, h1, h2, rfl, rfl⟩
        have hd2 : ∃ c, Lv3 c ∧ d = cD c := by
          have hd3 := List.mem_of_getElem? hd
          simp only [List.mem_cons, List.not_mem_nil, or_false] at hd3
          rcases hd3 with rfl | rfl | rfl | rfl
          · exact ⟨_, hA.lv2.lv3, rfl⟩
          · exact ⟨_, hB.lv2.lv3, rfl⟩
          · exact ⟨_, hC.lv3, rfl⟩
          · exact ⟨_, hE, rfl⟩
        obtain ⟨c, hc, rfl⟩ := hd2
        have hj : j < 4 := by
          have := (List.getElem?_eq_some_iff.mp hd).1
          simpa using this
        simp only [List.set_cons_succ, List.set_cons_zero]
        cases c with
        | circ x' y' q' =>
          walk_at "ev"
          refine brF rfl ?_
          walk_at "ev"
          exact ⟨cs, _, h0, h1, by omega, rfl, rfl⟩
        | line a' b' c' =>
          walk_at "ev"
          refine brT rfl ?_
          refine es_append ?_
          walk_at "ev"
          refine ⟨sa, _, [(v, .well)], _, rfl, rfl, by rw [List.length_map]; omega, ?_⟩
          walk_at "ev"
          refine ev_lcT (p := fun _ => true) (f := fun d => match d with | .tuple [.int a, .int b] => .tuple [.int (0 - a), .int b] | _ => .none) ?_
          refine ev_slT (n := 4) (sl_int 1) sl_no (by decide) ?_
          walk_at "ev"
          refine ⟨_, [qD a', qD b', qD c'], rfl, rfl, rfl, ?_⟩
          refine ⟨_, rfl, by simp, fun d _ q => ec_yes rfl, fun d hd _ q => ?_, ?_⟩
          · refine ev_neg ?_
            walk_at "ev"
            simp only [List.mem_cons, List.not_mem_nil, or_false] at hd
            rcases hd with rfl | rfl | rfl
            · exact ⟨a', rfl, rfl⟩
            · exact ⟨b', rfl, rfl⟩
            · exact ⟨c', rfl, rfl⟩
          · walk_at "ev"
            refine cb_tupOf (ds := [qD (qneg a'), qD (qneg b'), qD (qneg c')]) ?_
            refine r2_catT (by simp) (by simp) (by simp) ?_
            refine ⟨_, rfl, cs ++ [.line (qneg a') (qneg b') (qneg c')], _, by simp, ?_, ?_, ?_, rfl⟩
            · intro c hc2
              rcases List.mem_append.mp hc2 with hc2 | hc2
              · exact h1 c hc2
              · rw [List.mem_singleton] at hc2
                subst hc2
                exact lv3_neg hc
            · rw [List.length_append]
              show _ + 1 ≤ _
              omega
            · rw [List.map_append]
              rfl
      · rintro Γ' T' ⟨cs, x, h0, h1, h2, rfl, rfl⟩
        exact ⟨cs, x, h0, h1, by simpa using h2, by simp, by simp, rfl⟩
    · rintro Γ' T' ⟨cs, x, hne, hcs, hcl, hm3, hma, rfl⟩
      refine es_seqP (fun Γ' T' => True) ?_ ?_
      · refine es_for (fun j Γ' T' => (s3, Cell.own (seatsD l2)) ∈ T' ∧ (sa, Cell.own (cs.map fun c => cD c)) ∈ T' ∧ ∃ (x y z u t : Sl), Γ' = [Sl.ref v, Sl.ref sa, Sl.ref s3, x, t, y, z, u]) ?_
        walk_at "ev"
        refine ⟨s3, seatsD l2, rfl, ⟨hm3, hma, _, _, _, _, _, rfl⟩, fun j Γ' T' p => .inr p.1, ?_, fun _ _ _ => trivial⟩
        rintro j d Γ' T' hd ⟨hm3, hma, x, y, z, u, t, rfl⟩
        obtain ⟨z, hz, rfl⟩ : ∃ z, z ∈ l2 ∧ d = seatD z := by
          have := List.mem_of_getElem? hd
          obtain ⟨z, h1, h2⟩ := List.mem_map.mp this
          exact ⟨z, h1, h2.symm⟩
        have hzl := hl2 z hz
        have hg := fun c hc => hgood c z (hcs c hc) hzl
        simp only [List.set_cons_succ, List.set_cons_zero]
        walk_at "ev"
        refine ev_place ?_
        walk_at "ev"
        refine ⟨z, rfl, hzl.c, ?_⟩
        have hplace : ∃ c, c ∈ cs := by
          cases cs with
          | nil => exact absurd rfl hne
          | cons c _ => exact ⟨c, List.mem_cons_self⟩
        obtain ⟨c0, hc0⟩ := hplace
        have hpl := (hg c0 hc0).pl
        have hic := (hg c0 hc0).ic
        have hf : ((cs.map fun c => cD c).filter fun _ => true).map (fun d => PyData.int (side (unC d) z)) = cs.map fun c => .int (side c z) := by
          rw [List.filter_eq_self.mpr (fun _ _ => rfl), List.map_map]
          exact List.map_congr_left fun c _ => congrArg (fun c => PyData.int (side c z)) (unC_cD c)
        obtain ⟨r1, r2, r3, r4⟩ := repr_ok (cs := cs) (f := fun c => side c z) (by omega) (fun c => side_small c z)
        walk_at "ev"
        refine ev_callP ?_
        walk_at "ev"
        refine ⟨[plD (formed z.1) (formed z.2)], _, rfl, ⟨_, _, rfl, hpl, rfl⟩, ?_⟩
        walk_at "ev"
        refine ev_lcL (p := fun _ => true) (f := fun d => .int (side (unC d) z)) ?_
        walk_at "ev"
        refine ⟨sa, _, rfl, .inr hma, by rw [List.length_map]; omega, fun d _ q => ec_yes rfl, fun d hd _ q => ?_, ?_⟩
        · obtain ⟨c, hc, rfl⟩ := List.mem_map.mp hd
          simp only [List.set_cons_succ, List.set_cons_zero]
          refine ev_callP ?_
          walk_at "ev"
          refine ⟨[cD c, plD (formed z.1) (formed z.2)], _, rfl, ⟨c, _, _, rfl, rfl, (hcs c hc).ok.1, hpl, hic, (hg c hc).sb, rfl⟩, ?_⟩
          show Sl.dat (PyData.int (signBy c (inOne (formed z.1) (formed z.2)))) = Sl.dat (.int (side (unC (cD c)) z))
          rw [unC_cD, (hg c hc).eq]
        rw [hf]
        refine r2_cat (ds := [.bool true]) (es := cs.map fun c => .int (side c z)) (.inl rfl) (.inl rfl) (by rw [List.length_map]; show 1 + _ ≤ _; omega) ?_
        refine asg_new (fun a' => rfl) fun ta hta => ?_
        simp only [List.set_cons_succ, List.set_cons_zero, List.singleton_append]
        walk_at "ev"
        refine cb_repr r1 r2 r3 r4 (.inr ⟨ta, rfl, .inr (by simp)⟩) ?_
        walk_at "ev"
        refine ev_lcL (p := fun _ => true) (f := fun d => .int (side (unC d) z)) ?_
        walk_at "ev"
        refine ⟨sa, _, rfl, .inr (List.mem_cons_of_mem _ hma), by rw [List.length_map]; omega, fun d _ q => ec_yes rfl, fun d hd _ q => ?_, ?_⟩
        · obtain ⟨c, hc, rfl⟩ := List.mem_map.mp hd
          simp only [List.set_cons_succ, List.set_cons_zero]
          refine ev_callP ?_
          walk_at "ev"
          refine ⟨[cD c, seatD z], _, rfl, ⟨c, z, rfl, rfl, (hcs c hc).ok.2, hzl.c.2.2.1, hzl.c.2.2.2, rfl⟩, ?_⟩
          rw [unC_cD]
        rw [hf]
        refine r2_cat (ds := [.bool true]) (es := cs.map fun c => .int (side c z)) (.inl rfl) (.inl rfl) (by rw [List.length_map]; show 1 + _ ≤ _; omega) ?_
        simp only [List.singleton_append]
        walk_at "ev"
        refine cb_repr r1 r2 r3 r4 (.inl rfl) ?_
        walk_at "ev"
        refine brF (by rw [decide_eq_true rfl]; rfl) ?_
        walk_at "ev"
        exact ⟨List.mem_cons_of_mem _ hm3, List.mem_cons_of_mem _ hma, _, _, _, _, _, rfl⟩
      · intro Γ' T' _
        walk_at "ev"
        exact ⟨_, rfl, rfl⟩
end
end Pl
end
section
set_option Elab.async false
set_option linter.all false
set_option maxRecDepth 100000
set_option autoImplicit false
set_option maxHeartbeats 2000000
/-! the law's well; the law -/
namespace Pl
open PySem PySem.Spec PyProof.Rows L2
local macro_rules | `(tactic| walk_at "ev1") => `(tactic| first
  | with_reducible refine ev_var rfl ?_
  | with_reducible refine ev_ref rfl ?_
  | with_reducible refine ev_int ?_
  | with_reducible refine ev_str ?_
  | with_reducible refine ev_bl ?_
  | with_reducible refine ev_ty ?_
  | with_reducible refine ev_op ?_
  | with_reducible refine ev_un ?_
  | with_reducible refine ev_if ?_
  | with_reducible refine ev_tup ?_
  | with_reducible refine ev_lst ?_
  | with_reducible refine ev_cb ?_
  | with_reducible refine ev_andV ?_
  | with_reducible refine ev_orV ?_
  | with_reducible refine ev_notV ?_
  | with_reducible refine ec_val ?_
  | with_reducible refine ec_test ?_
  | with_reducible refine ec_not ?_
  | with_reducible refine ec_and ?_
  | with_reducible refine ec_or ?_
  | with_reducible refine ea_nil ?_
  | with_reducible refine ea_cons ?_
  | with_reducible refine es_seq ?_
  | with_reducible refine es_drop ?_
  | with_reducible refine es_ret ?_
  | with_reducible refine es_if ?_
  | with_reducible refine es_asg ?_
  | with_reducible refine es_asgG ?_
  | with_reducible refine es_par ?_
  | with_reducible refine es_par3 ?_
  | with_reducible refine es_next ?_
  | with_reducible refine eg_name (by (simp only [List.set_cons_succ, List.set_cons_zero]); exact rfl) ?_
  | with_reducible refine par_q (by (simp only [List.set_cons_succ, List.set_cons_zero]); exact rfl) ?_
  | with_reducible refine par_q3 (by (simp only [List.set_cons_succ, List.set_cons_zero]); exact rfl) ?_
  | with_reducible refine asg_dat (by (simp only [List.set_cons_succ, List.set_cons_zero]); exact rfl) ?_
  | with_reducible refine asg_ref (by (simp only [List.set_cons_succ, List.set_cons_zero]); exact rfl) ?_
  | with_reducible refine eg_tup rfl ?_
  | with_reducible refine eg_cons ?_
  | with_reducible refine eg_nil ?_
  | with_reducible refine tup_q2 ?_
  | with_reducible refine tup_q3 ?_
  | with_reducible refine tup_q4 ?_
  | with_reducible refine tup_q5 ?_
  | with_reducible refine tup_q8 ?_
  | with_reducible refine tup_q11 ?_
  | with_reducible refine tup_q0 ?_
  | with_reducible refine tup_q1 ?_
  | with_reducible refine tst ?_
  | with_reducible refine tun ?_
  | with_reducible refine r2_ix rfl ?_
  | with_reducible refine r2_i0 ?_
  | with_reducible refine r2_b0 ?_
  | with_reducible refine r2_eqI ?_
  | with_reducible refine r2_neI ?_
  | with_reducible refine r2_eqS ?_
  | with_reducible refine r2_neS ?_
  | with_reducible refine r2_subB ?_
  | with_reducible refine cb_gcd ?_
  | with_reducible refine cb_abs ?_
  | with_reducible refine cb_int ?_
  | with_reducible refine cb_lenT ?_)
local macro_rules | `(tactic| walk_at "sz") => `(tactic| first
  | assumption
  | with_reducible exact sz_0
  | with_reducible exact sz_1
  | with_reducible exact sz_2
  | with_reducible exact sz_4
  | with_reducible exact sz_m1
  | with_reducible exact Sz.mul (by walk_at "sz") (by walk_at "sz")
  | with_reducible exact Sz.add (by walk_at "sz") (by walk_at "sz")
  | with_reducible exact Sz.sub (by walk_at "sz") (by walk_at "sz")
  | with_reducible exact Sz.neg (by walk_at "sz"))
local macro_rules | `(tactic| walk_at "mulok") => `(tactic| first
  | assumption
  | exact mulok (by walk_at "sz") (by walk_at "sz") (by decide))
local macro_rules | `(tactic| walk_at "ev1") => `(tactic| (refine r2_i (C := CMulW) ?_ ?_; walk_at "mulok"))
local macro_rules | `(tactic| walk_at "ev") => `(tactic| repeat walk_at "ev1")
section
variable {P : Program} {w : World} {K : PySem.W.Frag} {mg : Str → Option Value} {base : Heap}
theorem sq_kept {H H' : Hp} {a : Addr} {xs : List V} (h : SqL K H a xs) (k : KeepA [] H H') : SqL K H' a xs := by
  rcases h with (h | ⟨o, h⟩) | h
  · exact .inl (.inl (k a _ (by simp) h))
  · exact .inl (.inr ⟨o, k a _ (by simp) h⟩)
  · exact .inr h
theorem rp_ints (H : Hp) : ∀ ns : List Int, RpAll K H (ns.map V.int) (ns.map PyData.int)
  | [] => .nil
  | n :: ns => .cons (.int n) (rp_ints H ns)
section
variable {H0 : Hp} {T : Th} {Γ : List Sl} {Q : Sl → Prop} {te : TE} {a : Addr} {ns : List Int}
theorem ev_slS {tl th : TO} {lo hi : Option Int} (hl : ∀ (σ : L2.St) (H : Hp) (k : Option Int → Hp → Prop), k lo H → tl σ H k) (hh : ∀ (σ : L2.St) (H : Hp) (k : Option Int → Hp → Prop), k hi H → th σ H k)
    (hs : SqL K H0 a (ns.map V.int)) (h : EvT ⟨K, [], H0⟩ T te Γ fun s => s = .ref a ∧ ∀ ms : List Int, Q (.new (ms.map .int))) : EvT ⟨K, [], H0⟩ T (tSl (rSlL K) te tl th) Γ Q := fun σ H k o c => h σ H _ o fun v H' s o' kp rv ⟨e, q⟩ => by
  subst e
  cases (show v = .ref a from rv)
  refine hl σ H' _ (hh σ H' _ ⟨a, _, rfl, sq_kept hs o'.t.keep, fun p hp => ?_⟩)
  obtain ⟨ms, em⟩ : ∃ ms : List Int, cutV (ns.map V.int) lo hi = ms.map V.int := ⟨_, by unfold cutV; rw [← List.map_drop, ← List.map_take]⟩
  rw [em]
  have k2 : Kp T H' (upd H' p (.lst (ms.map V.int))) := Kp.new hp
  obtain ⟨n1, n2⟩ := o'.t.newp hp
  exact c _ _ _ (o'.kp (o'.t.laid hp) k2) (kp.trans k2) (rvN n1 n2 upd_same (rp_ints _ ms)) (q ms)
theorem r2_ixSc {i : Int} (hs : SqL K H0 a (ns.map V.int)) (h0 : 0 ≤ i) (h1 : i < ns.length) (q : ∀ n : Int, Q (.dat (.int n))) : R2k ⟨K, [], H0⟩ T (rIxL K) (.ref a) (.dat (.int i)) Q := fun x y H k t rx ry c => by
  have hl : i.toNat < ns.length := by omega
  refine ⟨a, _, i, .int (ns[i.toNat]), rx, ry.int_inv, sq_kept hs t.keep, ?_, c _ H _ t Kp.refl (rvI _) (q _)⟩
  unfold atI ixN
  rw [List.length_map, if_pos h0, if_pos h1]
  show (ns.map V.int)[i.toNat]? = _
  rw [List.getElem?_map, List.getElem?_eq_getElem hl]
  rfl
theorem cb_lenS (hs : SqL K H0 a (ns.map V.int)) (q : Q (.dat (.int ns.length))) : CBk ⟨K, [], H0⟩ T (rLenA K) [.ref a] Q := fun xs H k t r c => by
  obtain ⟨x, rfl, r1⟩ := r.one
  cases (show x = .ref a from r1)
  exact ⟨_, ns.length, rfl, .inl ⟨_, sq_kept hs t.keep, (List.length_map ..).symm⟩, c _ H _ t Kp.refl (rvI _) q⟩
end
theorem body_S {t : TS} {N : List Str} {vs : List V} {ds : List PyData} {H : Hp} {Q : VK} {a : Addr} {R : Sl → Th → Prop} (r : RpAll K H vs ds) (hl : vs.length + 1 ≤ N.length)
    (ev : EvS ⟨K, [], H⟩ [] t (.ref a :: (ds.map .dat ++ List.replicate (N.length - (ds.length + 1)) .no)) (fun _ _ => False) R)
    (q : ∀ v H' s T', TOk ⟨K, [], H⟩ T' H' → RpV ⟨K, [], H⟩ T' H' v s → R s T' → Q v H') : t { nx := fun _ H' => Q .non H', rt := Q } (L2.start N (.ref a :: vs)) H :=
  ev _ H _ ⟨⟨List.nodup_nil, fun q hq => absurd hq (by simp), fun a ha => absurd (show a ∈ ([] : List Addr) from ha) (by simp), KeepA.refl⟩, start_rsW (B := ⟨K, [], H⟩) r hl⟩ (fun _ _ _ _ _ n => n.elim) fun v H' s T' t r hr => q v H' s T' t r hr
def spMake (K : PySem.W.Frag) : Sp := fun vs H Q _ => ∃ (a : Addr) (ns : List Int) (i : Int), vs = [.ref a, .int i] ∧ SqL K H a (ns.map V.int) ∧ 0 ≤ i ∧ i ≤ 1000 ∧
  ∀ p x y z H', KeepA [] H H' → H p = none → H' p = some (.lst [.int x, .int y, .int z]) → Q (.ref p) H'
theorem len_law_well {vs : List V} {H : Hp} {Q : VK} {E : XK} (h : spMake K vs H Q E) : vs.length = 2 := by
  obtain ⟨a, ns, i, rfl, _⟩ := h
  rfl
theorem sc_law_well : FnScope ["_law_script", "_law_at", "_law_mixed", "_law_cell", "_law_own"] ["_law_script", "_law_at"] (defScope s_law_well) := ⟨rfl, rfl, rfl, by decide +kernel, rfl, by decide +kernel, by decide +kernel⟩
theorem bd_law_well : BindsOf "_law_well" s_law_well ["_law_script", "_law_at"] := fun _ _ _ _ _ _ us hl => match us, hl with | [_, _], _ => rfl
theorem ok_law_well (T : Tx K mg)  : Gd P w K mg base 1 "_law_well" ["_law_script", "_law_at"] (spMake K) := by
  refine (T.dfn 24 rfl).gd sc_law_well bd_law_well (fun vs H Q E h => len_law_well h) ?_
  intro f cdv A outer s H E hr
  have nd := sc_law_well.nd
  refine ⟨_, (pss_cons (ps_set (i := 2) nd rfl (Or.inl rfl) (pe_op op_add pe_int (pe_op op_mul pe_int (pv 1))))
      (pss_cons (ps_for PassesOwn.never rfl (pi_list (pe_slice sl_list (pv 0) po_none (po_some pe_int))) (pg_name (i := 3) nd rfl (Or.inl rfl)) (pss_one (ps_set (i := 2) nd rfl (Or.inl rfl) (pe_op op_md (pe_callTy call_int1 (by rfl) (T.free "int") (by decide +kernel) (pa_cons (pe_op op_add (pe_op op_add (pe_op op_mul (pv 2) pe_int) (pe_op op_md (pe_callTy call_int1 (by rfl) (T.free "int") (by decide +kernel) (pa_cons (pv 3) pa_nil)) pe_int)) pe_int) pa_nil)) pe_int))))
      (pss_cons (ps_set (i := 4) nd rfl (Or.inl rfl) (pe_ifExp (pt_cmpR op_lt (pv 1) (pe_callB call_len (by rfl) (T.free "len") (by decide +kernel) (pa_cons (pv 0) pa_nil)) (nomark _)) (pe_callTy call_int1 (by rfl) (T.free "int") (by decide +kernel) (pa_cons (pe_ix ix_list (pv 0) (pv 1) (fun _ _ => rfl)) pa_nil)) pe_int))
      (pss_cons (ps_set (i := 2) nd rfl (Or.inl rfl) (pe_op op_md (pe_callTy call_int1 (by rfl) (T.free "int") (by decide +kernel) (pa_cons (pe_op op_add (pe_op op_add (pe_op op_mul (pv 2) pe_int) (pe_op op_mul (pe_op op_md (pe_callTy call_int1 (by rfl) (T.free "int") (by decide +kernel) (pa_cons (pv 4) pa_nil)) pe_int) pe_int)) pe_int) pa_nil)) pe_int))
      (pss_one (ps_ret (pe_lst (pa_cons (pe_ifExp (PW.pt (pw_or (pt_cmpR op_lt (pv 4) pe_int (nomark _)) (pw_or1 (pt_cmpR op_ge (pv 4) (pe_op op_pow pe_int pe_int) (nomark _))))) (pe_callB call_abs (by rfl) (T.free "abs") (by decide +kernel) (pa_cons (pv 4) pa_nil)) pe_int) (pa_cons (pv 2) (pa_cons pe_int pa_nil)))))))))), ?_⟩
  try simp only [cxK, cxN]
  intro vs Q h
  obtain ⟨a, ns, i, rfl, hs, i0, i1, q⟩ := h
  refine body_S (K := K) (R := fun s _ => ∃ x y z : Int, s = .new [.int x, .int y, .int z]) (ds := [.int i]) (.cons (.int i) .nil) (by simp) ?_ ?_
  rotate_left
  · rintro v H' s T' t r ⟨x, y, z, rfl⟩
    obtain ⟨p, xs, rfl, n1, n2, ex, rx⟩ := r
    cases rx with
    | cons r1 rx =>
      cases rx with
      | cons r2 rx =>
        cases rx with
        | cons r3 rx =>
          cases rx
          cases r1
          cases r2
          cases r3
          exact q p x y z H' t.keep n2 ex
  change EvS ⟨K, [], H⟩ [] _ [Sl.ref a, Sl.dat (.int i), Sl.no, Sl.no, Sl.no] _ _
  have cm : ∀ {x y : Int}, (-(2 ^ 64) < y ∧ y < 2 ^ 64) → CMul x y := fun h => .inr h
  walk_at "ev"
  refine r2_i (C := CMul) (cm (by omega)) ?_
  walk_at "ev"
  refine es_forA (fun p ds j Γ' T' => ∃ (m : Int) (s : Sl), Γ' = [Sl.ref a, Sl.dat (.int i), Sl.dat (.int m), s, Sl.no] ∧ T' = [(p, Cell.own ds)] ∧ (-(2 ^ 64) < m ∧ m < 2 ^ 64)) ?_
  refine ev_slS sl_no (sl_int 9) hs ?_
  walk_at "ev"
  refine ⟨rfl, fun ms => ?_⟩
  refine ⟨_, rfl, fun p hp => ⟨⟨_, _, rfl, rfl, by omega⟩, ?_, ?_, ?_⟩⟩
  · rintro j Γ' T' ⟨m, s, rfl, rfl, _⟩
    simp
  · rintro j d Γ' T' hd ⟨m, s, rfl, rfl, hm⟩
    obtain ⟨n, _, rfl⟩ := List.mem_map.mp (List.mem_of_getElem? hd)
    simp only [List.set_cons_succ, List.set_cons_zero]
    walk_at "ev"
    refine r2_i (C := CMul) (.inl hm) ?_
    walk_at "ev"
    refine r2_i (C := CMd) (cmd_n (by decide)) ?_
    walk_at "ev"
    refine r2_i (C := CMd) (cmd_n (by decide)) ?_
    walk_at "ev"
    rw [fmod_p (i := m * 48017 + _ + 3) (by decide)]
    have s1 := Int.emod_nonneg (m * 48017 + n.fmod 2147483629 + 3) (show (2147483579 : Int) ≠ 0 by decide)
    have s2 := Int.emod_lt_of_pos (m * 48017 + n.fmod 2147483629 + 3) (show (0 : Int) < 2147483579 by decide)
    exact ⟨_, _, rfl, rfl, by omega, by omega⟩
  · rintro Γ' T' ⟨m, s, rfl, rfl, hm⟩
    walk_at "ev"
    refine cb_lenS hs ?_
    walk_at "ev"
    refine two_ev (fun s => ∃ n : Int, s = .dat (.int n)) (fun hb => ?_) (fun _ => ?_) ?_
    · walk_at "ev"
      refine r2_ixSc hs i0 (of_decide_eq_true hb) fun n => ?_
      walk_at "ev"
      exact ⟨n, rfl⟩
    · walk_at "ev"
      exact ⟨_, rfl⟩
    rintro _ ⟨own, rfl⟩
    walk_at "ev"
    refine r2_i (C := CMul) (.inl hm) ?_
    walk_at "ev"
    refine r2_i (C := CMd) (cmd_n (by decide)) ?_
    walk_at "ev"
    refine r2_i (C := CMul) (.inr (by decide)) ?_
    walk_at "ev"
    refine r2_i (C := CMd) (cmd_n (by decide)) ?_
    walk_at "ev"
    refine ⟨fun _ => ?_, fun _ => ⟨fun _ => ?_, fun z => (by cases z)⟩⟩
    · walk_at "ev"
      refine r2_i (C := CPow) ⟨by decide, by decide, by decide⟩ ?_
      walk_at "ev"
      refine ⟨fun _ => ?_, fun _ => ?_⟩
      · walk_at "ev"
        exact ⟨_, _, _, rfl⟩
      · walk_at "ev"
        exact ⟨_, _, _, rfl⟩
    · walk_at "ev"
      exact ⟨_, _, _, rfl⟩
/-- the turn on a new well -/
theorem ev_turn {H0 : Hp} {T : Th} {Γ : List Sl} {Q : Sl → Prop} {tl : TA} (h : EvA ⟨K, [], H0⟩ T tl Γ fun ss => ∃ (a : Addr) (ns : List Int) (i : Int), ss = [.ref a, .dat (.int i)] ∧ SqL K H0 a (ns.map V.int) ∧ 0 ≤ i ∧ i ≤ 1000 ∧ Q (.dat (.bool true))) :
    EvT ⟨K, [], H0⟩ T (tCall (spW K S_right) [] E0 (tCons (tCall (spMake K) [] E0 tl) tNil)) Γ Q := fun σ H k o c => h σ H _ o fun vs H1 ss o1 kp1 r ⟨a, ns, i, e, hs, i0, i1, q⟩ => by
  subst e
  obtain ⟨x, y, rfl, r1, r2⟩ := r.two
  cases (show x = .ref a from r1)
  refine ⟨a, ns, i, by rw [r2.int_inv]; rfl, sq_kept hs o1.t.keep, i0, i1, fun p x y z H2 k2 hp hx => ?_⟩
  refine ⟨p, [], [], _, rfl, ⟨x, y, z, hx⟩, .nil, rfl, fun v H3 d k3 hW rd hd => ?_⟩
  subst hd
  have kk : KeepA [] H1 H3 := fun b ob _ e => k3 b ob (fun z => by rw [List.mem_singleton.mp z, hp] at e; cases e) (k2 b ob (by simp) e)
  exact c v H3 _ (o1.kp (o1.t.same kk) (Kp.same kk)) (kp1.trans (Kp.same kk)) (rvD rd) q
theorem ev_lcR {B : Bx} {T : Th} {Γ : List Sl} {Q : Sl → Prop} {te : TE} {tl : TA} {i : Nat} (h : EvA B T tl Γ fun ss => ∃ n : Nat, ss = [.dat (.int n)] ∧ n ≤ 1000 ∧ (∀ j : Nat, j < n → ∀ q, EvT B (q :: T) te ((Γ.set i .no).set i (.dat (.int j))) fun s => s = .dat (.bool true)) ∧ Q (.new ((List.replicate n true).map .bool))) :
    EvT B T (tLc (iRng1 tl) (gName i) tYes te [i]) Γ Q := fun σ H k o c => h σ H _ o fun vs H1 ss o1 kp1 r ⟨n, q1, q2, q4, q5⟩ => by
  subst q1
  cases r with
  | cons r1 r2 =>
    cases r2
    refine ⟨n, by cases r1; rfl, by omega, by omega, fun D hD => ?_⟩
    obtain ⟨oD, n1, n2⟩ := ok_more o1 hD
    have hl : ((List.range n).map fun k : Nat => PyData.int k).length = n := by simp
    rw [show (n : Int).toNat = n from rfl]
    refine lc_range (lo := 0) (n := n) (fun j H2 => Ok B ((D, .own (((((List.range n).map fun k : Nat => PyData.int k).take j).filter fun _ => true).map fun _ => .bool true)) :: T) σ H2 Γ ∧ Kp T H1 H2) ⟨oD, Kp.new hD⟩ (fun j H2 hj ⟨o2, k2⟩ => ?_) (fun H2 ⟨o2, k2⟩ => ?_)
    · refine lc_turn (ds := (List.range n).map fun k : Nat => PyData.int k) (p := fun _ => true) (f := fun _ => .bool true) (by rw [hl]; exact q2) (fun d _ q => ec_yes rfl) (fun d hd _ q => ?_) (j := j) (d := .int j) ?_ ?_ o2 k2 n1 (fun H3 o3 k3 => ⟨o3, k3⟩) hD
      · obtain ⟨m, hm, rfl⟩ := List.mem_map.mp hd
        exact q4 m (List.mem_range.mp hm) q
      · rw [List.getElem?_map, List.getElem?_range hj]
        rfl
      · rw [Int.zero_add]
        exact .int _
    · rw [List.take_of_length_le (by rw [hl]; exact Nat.le_refl _)] at o2
      obtain ⟨_, ys, ey, ry⟩ := o2.t.cells _ List.mem_cons_self
      have tO : TOk B T H2 := ⟨o1.t.nd, fun q hq => o2.t.cells q (List.mem_cons_of_mem _ hq), o1.t.as, o2.t.keep⟩
      have e : (((List.range n).map fun k : Nat => PyData.int k).filter fun _ => true).map (fun _ => PyData.bool true) = (List.replicate n true).map .bool := by
        rw [List.filter_eq_self.mpr (fun _ _ => rfl), List.map_map, List.map_replicate]
        exact List.eq_replicate_iff.mpr ⟨by simp, fun b hb => by obtain ⟨_, _, rfl⟩ := List.mem_map.mp hb; rfl⟩
      rw [e] at ry
      exact c _ H2 _ (o.kp tO (kp1.trans k2)) (kp1.trans k2) (rvN n1 n2 ey ry) q5
theorem cb_mx {B : Bx} {T : Th} {Q : Sl → Prop} {i j : Int} (q : Q (.dat (.int (if j > i then j else i)))) : CBk B T (fun xs H Q => ∃ i j, xs = [.int i, .int j] ∧ Q (.int (if j > i then j else i)) H) [.dat (.int i), .dat (.int j)] Q := fun xs H k t r c => by
  obtain ⟨x, y, rfl, r1, r2⟩ := r.two
  exact ⟨i, j, by rw [r1.int_inv, r2.int_inv], c _ H _ t Kp.refl (rvI _) q⟩
theorem cb_mn {B : Bx} {T : Th} {Q : Sl → Prop} {i j : Int} (q : Q (.dat (.int (if j < i then j else i)))) : CBk B T (fun xs H Q => ∃ i j, xs = [.int i, .int j] ∧ Q (.int (if j < i then j else i)) H) [.dat (.int i), .dat (.int j)] Q := fun xs H k t r c => by
  obtain ⟨x, y, rfl, r1, r2⟩ := r.two
  exact ⟨i, j, by rw [r1.int_inv, r2.int_inv], c _ H _ t Kp.refl (rvI _) q⟩
def spLaw (K : PySem.W.Frag) : Sp := fun us H Q _ => ∃ (a : Addr) (ms : List Int), us = [.ref a] ∧ SqL K H a (ms.map V.int) ∧ ∀ H', Q (.bl true) H'
theorem lenlaw {vs : List V} {H : Hp} {Q : VK} {E : XK} (h : spLaw K vs H Q E) : vs.length = 1 := by
  obtain ⟨a, ns, rfl, _⟩ := h
  rfl
theorem sclaw : FnScope ["_law_script", "_law_at"] ["_law_script"] (defScope slaw) := ⟨rfl, rfl, rfl, by decide +kernel, rfl, by decide +kernel, by decide +kernel⟩
theorem bdlaw : BindsOf "law" slaw ["_law_script"] := fun _ _ _ _ _ _ us hl => match us, hl with | [_], _ => rfl
theorem oklaw (T : Tx K mg) (G_law_right : GdG P w K mg base 8 "_law_right" ["_law_well_here"] (spW K S_right)) (G_law_well : Gd P w K mg base 1 "_law_well" ["_law_script", "_law_at"] (spMake K)) : GdG P w K mg base 9 "law" ["_law_script"] (spLaw K) := by
  refine (T.dfn 57 rfl).gdG sclaw bdlaw (fun vs H Q E h => lenlaw h) ?_
  intro f cdv A outer s H E hgd hr
  have hu65 := Room.u65 hr
  have nd := sclaw.nd
  refine ⟨_, (pss_one (ps_ret (pe_callB (cr_all rfl) (by rfl) (T.free "all") (by decide +kernel) (pa_cons (pe_lc (own := [("_law_at", 1)]) (g := gName 1) rfl nd (pi_range1 rfl (T.free "range") (pa_cons (pe_callB (call_max2 rfl) (by rfl) (T.free "max") (by decide +kernel) (pa_cons pe_int (pa_cons (pe_callB (call_min2 rfl) (by rfl) (T.free "min") (by decide +kernel) (pa_cons (pe_callB call_len (by rfl) (T.free "len") (by decide +kernel) (pa_cons (pv 0) pa_nil)) (pa_cons pe_int pa_nil))) pa_nil))) pa_nil)) (blkOk_by (own := [("_law_at", 1)]) (N := ["_law_script", "_law_at"]) (sc := defScope slaw) (by decide +kernel)) (fun _ _ _ _ _ => pg_name (i := 1) nd rfl (Or.inl rfl)) (fun _ _ _ _ _ => pts_nil) (fun _ _ _ _ _ => (pe_callGG G_law_right hgd hr rfl (pa_cons (pe_callG G_law_well (hr.mono (by decide)) rfl (pa_cons (pv 0) (pa_cons (pv 1) pa_nil))) pa_nil)))) pa_nil)))), ?_⟩
  try simp only [cxK, cxN]
  intro vs Q h
  obtain ⟨a, ns, rfl, hs, q⟩ := h
  refine body_S (K := K) (R := fun s _ => s = .dat (.bool true)) (ds := []) .nil (by simp) ?_ ?_
  rotate_left
  · rintro v H' s T' t r rfl
    have r : Rp K H' v (.bool true) := r
    cases r
    exact q H'
  change EvS ⟨K, [], H⟩ [] _ [Sl.ref a, Sl.no] _ _
  walk_at "ev"
  refine ev_lcR ?_
  walk_at "ev"
  refine cb_lenS hs ?_
  walk_at "ev"
  refine cb_mn ?_
  walk_at "ev"
  refine cb_mx ?_
  obtain ⟨n, en, hn⟩ : ∃ n : Nat, (if (if (4 : Int) < (ns.length : Int) then (4 : Int) else (ns.length : Int)) > 2 then (if (4 : Int) < (ns.length : Int) then (4 : Int) else (ns.length : Int)) else 2) = (n : Int) ∧ n ≤ 4 := by
    refine ⟨max 2 (min ns.length 4), ?_, by omega⟩
    split <;> split <;> omega
  rw [en]
  walk_at "ev"
  refine ⟨n, rfl, by omega, fun j hj q => ?_, ?_⟩
  · simp only [List.set_cons_succ, List.set_cons_zero]
    refine ev_turn ?_
    walk_at "ev"
    exact ⟨a, ns, j, rfl, hs, by omega, by omega, rfl⟩
  · walk_at "ev"
    refine cb_all ?_
    have e : (List.replicate n true).all id = true := by simp
    rw [e]
end
end Pl
end
section
set_option Elab.async false
set_option linter.all false
set_option autoImplicit false
/-! the side of a seat, in both readings -/
namespace Pl
open PySem L2
theorem sgn_cases (i : Int) : (0 < i ∧ sgn i = 1) ∨ (i < 0 ∧ sgn i = -1) ∨ (i = 0 ∧ sgn i = 0) := by
  unfold sgn
  rcases Int.lt_trichotomy 0 i with h | h | h
  · exact .inl ⟨h, if_pos h⟩
  · subst h
    exact .inr (.inr ⟨rfl, rfl⟩)
  · exact .inr (.inl ⟨h, by rw [if_neg (by omega), if_pos h]⟩)
/-- the sign of a product with something above 0 -/
theorem sgn_mulp {k n : Int} (h : 0 < k) : sgn (n * k) = sgn n := by
  rcases sgn_cases n with ⟨a, e⟩ | ⟨a, e⟩ | ⟨a, e⟩
  · rw [e]
    unfold sgn
    exact if_pos (Int.mul_pos a h)
  · rw [e]
    have := Int.mul_neg_of_neg_of_pos a h
    unfold sgn
    rw [if_neg (by omega), if_pos this]
  · rw [e, a, Int.zero_mul]
    rfl
theorem VB.sgn {x : Qn} {N D : Int} (h : VB x N D) : sgn x.1 = sgn N := by
  have e := h.eq
  rw [← sgn_mulp h.pos, e, sgn_mulp h.red.1]
theorem sign_by {x y : Qn} {r A B C : Int} (h1 : sgn x.1 = sgn A) (h2 : (if r ≠ 0 then sgn y.1 else 0) = sgn B) (h3 : sgn (qsub (qmul x x) (qmul (qmul y y) (r, 1))).1 = sgn C) :
    sign1 x y r = if sgn A = sgn B ∨ sgn B = 0 then sgn A else if sgn A = 0 then sgn B else sgn C * sgn A := by
  unfold sign1
  rw [h1, h2, h3]
  rcases sgn_cases A with ⟨_, ea⟩ | ⟨_, ea⟩ | ⟨_, ea⟩ <;> rcases sgn_cases B with ⟨_, eb⟩ | ⟨_, eb⟩ | ⟨_, eb⟩ <;> rcases sgn_cases C with ⟨_, ec⟩ | ⟨_, ec⟩ | ⟨_, ec⟩ <;> rw [ea, eb, ec] <;> decide
theorem sq_nn (a : Int) : 0 ≤ a * a := by
  rcases Int.le_total 0 a with z | z
  · exact Int.mul_nonneg z z
  · exact Int.mul_nonneg_of_nonpos_of_nonpos z z
/-- A / M + (B G / W) root R, where R is r W² / (G M)² -/
theorem sign_gen {x y : Qn} {A B G M W r R : Int} (hx : VB x A M) (hy : VB y (B * G) W) (hG : 0 < G) (hr : 0 < r) (hR : R ≠ 0) (e : R * (G * G) * (M * M) = r * (W * W)) : sign1 x y R = lsign A B r := by
  have hz : VB ((R, 1) : Qn) R 1 := ⟨⟨(by decide : (0 : Int) < 1), Nat.gcd_one_right _⟩, by decide, rfl⟩
  have v := qsub_vb (qmul_vb hx hx) (qmul_vb (qmul_vb hy hy) hz)
  have en : A * A * (W * W * 1) - B * G * (B * G) * R * (M * M) = (A * A - B * B * r) * (W * W) := by grind
  rw [en] at v
  have hW := Int.mul_pos hy.pos hy.pos
  rw [sign_by (A := A) (B := B) (C := A * A - B * B * r) hx.sgn (by rw [if_pos hR, hy.sgn, sgn_mulp hG]) (by rw [v.sgn, sgn_mulp hW])]
  unfold lsign
  simp only
  rw [if_pos hr]
/-- A + B w by squares -/
theorem lsign_sq {A B w : Int} (hw : 0 ≤ w) : lsign A B (w * w) = sgn (A + B * w) := by
  unfold lsign
  simp only
  rcases Int.lt_or_eq_of_le hw with z | z
  · have z2 := Int.mul_pos z z
    rw [if_pos z2]
    have hB : sgn B = sgn (B * w) := (sgn_mulp z).symm
    have e : A * A - B * B * (w * w) = (A - B * w) * (A + B * w) := by grind
    rw [hB, e]
    generalize B * w = C
    rcases sgn_cases A with ⟨a, ea⟩ | ⟨a, ea⟩ | ⟨a, ea⟩ <;> rcases sgn_cases C with ⟨b, eb⟩ | ⟨b, eb⟩ | ⟨b, eb⟩ <;> rw [ea, eb]
    · rw [if_pos (.inl rfl)]
      unfold sgn
      rw [if_pos (by omega)]
    · rw [if_neg (by decide), if_neg (by decide)]
      rw [Int.mul_comm (A - C), sgn_mulp (by omega), Int.mul_one]
    · rw [if_pos (.inr rfl), b, Int.add_zero, ea]
    · rw [if_neg (by decide), if_neg (by decide)]
      have e2 : (A - C) * (A + C) = -((A + C) * (C - A)) := by grind
      rw [e2]
      have e3 : sgn (-((A + C) * (C - A))) = -sgn (A + C) := by
        rw [← Int.neg_mul, sgn_mulp (by omega)]
        unfold sgn
        split <;> split <;> (try split) <;> (try split) <;> omega
      rw [e3]
      omega
    · rw [if_pos (.inl rfl)]
      unfold sgn
      rw [if_neg (by omega), if_pos (by omega)]
    · rw [if_pos (.inr rfl), b, Int.add_zero, ea]
    · rw [if_neg (by decide), if_pos rfl, a, Int.zero_add, eb]
    · rw [if_neg (by decide), if_pos rfl, a, Int.zero_add, eb]
    · rw [if_pos (.inl rfl), a, b]
      rfl
  · subst z
    have e0 : (if (0 : Int) < 0 * 0 then sgn B else 0) = 0 := if_neg (by decide)
    rw [e0, if_pos (.inr rfl), Int.mul_zero, Int.add_zero]
/-- five numbers that stand for (a + b root r) / d, (c + e root r) / d -/
structure Rep (a b c e r d : Int) (f : Five) : Prop where
  is : ∃ G W : Int, 0 < G ∧ VB f.1 a d ∧ VB f.2.2.1 c d ∧ VB f.2.1 (b * G) W ∧ VB f.2.2.2.1 (e * G) W ∧ f.2.2.2.2 ≠ 0 ∧ 0 < r ∧ f.2.2.2.2 * (G * G) * (d * d) = r * (W * W) ∧
    Sz 2478 G ∧ Sz 3061 W ∧ Sz 4973 f.2.2.2.2 ∧ Sz 1247 a ∧ Sz 1247 c ∧ Sz 581 b ∧ Sz 581 e ∧ Sz 1330 r ∧ Sz 1239 d
theorem rep_line {a b c e r d : Int} {f : Five} (h : Rep a b c e r d f) {α β γ : Qn} (hL : LineB 4 3 105 99 α β γ) : SbC (.line α β γ) f ∧ signBy (.line α β γ) f = side (.line α β γ) (seatOf a b c e r d) := by
  obtain ⟨P, Q, S, T, R⟩ := f
  obtain ⟨G, W, hG, hP, hS, hQ, hT, hR, hr, eR, sG, sW, sR, sa, sc, sb, se, sr, sd⟩ := h.is
  simp only at hP hS hQ hT hR eR sR
  obtain ⟨l1, l2, l3, l4⟩ := hL
  have qP : QB 1247 1239 P := .of_vb hP sa sd
  have qS : QB 1247 1239 S := .of_vb hS sc sd
  have qQ : QB 3059 3061 Q := .of_vb hQ ((sb.mul sG).mono (by decide)) sW
  have qT : QB 3059 3061 T := .of_vb hT ((se.mul sG).mono (by decide)) sW
  have vA := qsub_vb (qadd_vb (qmul_vb l1.1.vb hP) (qmul_vb l2.1.vb hS)) l3.1.vb
  have vB := qadd_vb (qmul_vb l1.1.vb hQ) (qmul_vb l2.1.vb hT)
  have hM : 0 < α.2 * β.2 * γ.2 * d := Int.mul_pos (Int.mul_pos (Int.mul_pos l1.1.1 l2.1.1) l3.1.1) hP.pos
  have hW : 0 < α.2 * β.2 * γ.2 * W := Int.mul_pos (Int.mul_pos (Int.mul_pos l1.1.1 l2.1.1) l3.1.1) hQ.pos
  have vA2 := vA.conv (N' := (bar α β γ).1 * a + (bar α β γ).2.1 * c - (bar α β γ).2.2 * d) hM (by unfold bar; grind)
  have vB2 := vB.conv (N' := ((bar α β γ).1 * b + (bar α β γ).2.1 * e) * G) hW (by unfold bar; grind)
  have su : Sz 106 (bar α β γ).1 := ((l1.2.1.mul l2.2.2).mul l3.2.2).mono (by decide)
  have sv : Sz 106 (bar α β γ).2.1 := ((l2.2.1.mul l1.2.2).mul l3.2.2).mono (by decide)
  have st : Sz 111 (bar α β γ).2.2 := ((l3.2.1.mul l1.2.2).mul l2.2.2).mono (by decide)
  have sm : Sz 105 (α.2 * β.2 * γ.2) := ((l1.2.2.mul l2.2.2).mul l3.2.2).mono (by decide)
  have hsg : signBy (.line α β γ) (P, Q, S, T, R) = side (.line α β γ) (seatOf a b c e r d) :=
    sign_gen vA2 vB2 hG hr hR (by grind)
  refine ⟨?_, hsg⟩
  have q1 := l1.mul qP
  have q2 := l2.mul qS
  have q3 := q1.add q2
  have q4 : QB 1355 1344 (qsub (qadd (qmul α P) (qmul β S)) γ) := .of_vb vA2 ((((su.mul sa).add (sv.mul sc)).sub (st.mul sd)).mono (by decide)) ((sm.mul sd).mono (by decide))
  have q5 := l1.mul qQ
  have q6 := l2.mul qT
  have vB3 := vB.conv (D' := α.2 * β.2 * W) (N' := (α.1 * β.2 * b + β.1 * α.2 * e) * G) (Int.mul_pos (Int.mul_pos l1.1.1 l2.1.1) hQ.pos) (by grind)
  have q7 : QB 3068 3067 (qadd (qmul α Q) (qmul β T)) := .of_vb vB3 ((((((l1.2.1.mul l2.2.2).mul sb).add ((l2.2.1.mul l1.2.2).mul se))).mul sG).mono (by decide)) (((l1.2.2.mul l2.2.2).mul sW).mono (by decide))
  have hz : VB ((R, 1) : Qn) R 1 := ⟨⟨(by decide : (0 : Int) < 1), Nat.gcd_one_right _⟩, by decide, rfl⟩
  have vC := (qmul_vb (qmul_vb vB2 vB2) hz).conv (D' := (α.2 * β.2 * γ.2 * d) * (α.2 * β.2 * γ.2 * d)) (N' := ((bar α β γ).1 * b + (bar α β γ).2.1 * e) * ((bar α β γ).1 * b + (bar α β γ).2.1 * e) * r) (Int.mul_pos hM hM) (by
    generalize (bar α β γ).1 * b + (bar α β γ).2.1 * e = N
    generalize α.2 * β.2 * γ.2 = m
    grind)
  have sN := (su.mul sb).add (sv.mul se)
  have q8 : QB 2710 2688 (qmul (qmul (qadd (qmul α Q) (qmul β T)) (qadd (qmul α Q) (qmul β T))) (R, 1)) := .of_vb vC (((sN.mul sN).mul sr).mono (by decide)) (((sm.mul sd).mul (sm.mul sd)).mono (by decide))
  exact ⟨l1.mulC qP (by decide) (by decide), l2.mulC qS (by decide) (by decide), q1.addC q2 (by decide) (by decide) (by decide), q3.subC l3 (by decide) (by decide) (by decide), l1.mulC qQ (by decide) (by decide), l2.mulC qT (by decide) (by decide),
    q5.addC q6 (by decide) (by decide) (by decide), ⟨q4.mulC q4 (by decide) (by decide), q7.mulC q7 (by decide) (by decide), (q7.mul q7).mulC (qbi sR) (by decide) (by decide), (q4.mul q4).subC q8 (by decide) (by decide) (by decide)⟩⟩
end Pl
end
section
set_option Elab.async false
set_option linter.all false
set_option autoImplicit false
set_option maxHeartbeats 1000000
/-! the side of a seat at a circle -/
namespace Pl
open PySem L2
theorem rep_circ {a b c e r d : Int} {f : Five} (h : Rep a b c e r d f) {x y k : Qn} (hC : CircB 49 43 211 202 x y k) : SbC (.circ x y k) f ∧ signBy (.circ x y k) f = side (.circ x y k) (seatOf a b c e r d) := by
  obtain ⟨P, Q, S, T, R⟩ := f
  obtain ⟨G, W, hG, hP, hS, hQ, hT, hR, hr, eR, sG, sW, sR, sa, sc, sb, se, sr, sd⟩ := h.is
  simp only at hP hS hQ hT hR eR sR
  obtain ⟨l1, l2, l3, _⟩ := hC
  have qP : QB 1247 1239 P := .of_vb hP sa sd
  have qS : QB 1247 1239 S := .of_vb hS sc sd
  have qQ : QB 3059 3061 Q := .of_vb hQ ((sb.mul sG).mono (by decide)) sW
  have qT : QB 3059 3061 T := .of_vb hT ((se.mul sG).mono (by decide)) sW
  have hz : VB ((R, 1) : Qn) R 1 := ⟨⟨(by decide : (0 : Int) < 1), Nat.gcd_one_right _⟩, by decide, rfl⟩
  have h2 : VB ((2, 1) : Qn) 2 1 := ⟨⟨by decide, by decide⟩, by decide, rfl⟩
  have dp := hP.pos
  have wp := hQ.pos
  have x2 := l1.1.1
  have y2 := l2.1.1
  have k2 := l3.1.1
  have v1 := qsub_vb hP l1.1.vb
  have v2 := qsub_vb hS l2.1.vb
  have sv1 : Sz 1291 (a * x.2 - x.1 * d) := ((sa.mul l1.2.2).sub (l1.2.1.mul sd)).mono (by decide)
  have sv2 : Sz 1291 (c * y.2 - y.1 * d) := ((sc.mul l2.2.2).sub (l2.2.1.mul sd)).mono (by decide)
  have q1 : QB 1291 1282 (qsub P x) := .of_vb v1 sv1 ((sd.mul l1.2.2).mono (by decide))
  have q2 : QB 1291 1282 (qsub S y) := .of_vb v2 sv2 ((sd.mul l2.2.2).mono (by decide))
  have sE : Sz 1334 ((a * x.2 - x.1 * d) * y.2) := (sv1.mul l2.2.2).mono (by decide)
  have sF : Sz 1334 ((c * y.2 - y.1 * d) * x.2) := (sv2.mul l1.2.2).mono (by decide)
  have eu : side (.circ x y k) (seatOf a b c e r d) = lsign (k.2 * ((((a * x.2 - x.1 * d) * y.2) * ((a * x.2 - x.1 * d) * y.2) + ((c * y.2 - y.1 * d) * x.2) * ((c * y.2 - y.1 * d) * x.2) + (b * b + e * e) * r * ((x.2 * y.2) * (x.2 * y.2))) * k.2 - k.1 * (d * d * ((x.2 * y.2) * (x.2 * y.2)))))
      (2 * (k.2 * (x.2 * y.2 * k.2)) * (((a * x.2 - x.1 * d) * y.2) * b + ((c * y.2 - y.1 * d) * x.2) * e)) r := by
    show lsign _ _ r = _
    congr 1
    · unfold ring
      simp only
      grind
    · unfold ring
      simp only
      grind
  -- the square of the way
  have vAA := (qadd_vb (qmul_vb v1 v1) (qmul_vb v2 v2)).conv (D' := d * d * ((x.2 * y.2) * (x.2 * y.2))) (N' := ((a * x.2 - x.1 * d) * y.2) * ((a * x.2 - x.1 * d) * y.2) + ((c * y.2 - y.1 * d) * x.2) * ((c * y.2 - y.1 * d) * x.2))
    (Int.mul_pos (Int.mul_pos dp dp) (Int.mul_pos (Int.mul_pos x2 y2) (Int.mul_pos x2 y2))) (by
      generalize a * x.2 - x.1 * d = E
      generalize c * y.2 - y.1 * d = F
      grind)
  have vS := (qadd_vb (qmul_vb v1 hQ) (qmul_vb v2 hT)).conv (D' := d * (x.2 * y.2) * W) (N' := (((a * x.2 - x.1 * d) * y.2) * b + ((c * y.2 - y.1 * d) * x.2) * e) * G) (Int.mul_pos (Int.mul_pos dp (Int.mul_pos x2 y2)) wp) (by
      generalize a * x.2 - x.1 * d = E
      generalize c * y.2 - y.1 * d = F
      grind)
  generalize (a * x.2 - x.1 * d) * y.2 = E at *
  generalize (c * y.2 - y.1 * d) * x.2 = F at *
  have vBB := (qadd_vb (qmul_vb hQ hQ) (qmul_vb hT hT)).conv (D' := W * W) (N' := (b * b + e * e) * (G * G)) (Int.mul_pos wp wp) (by grind)
  have vBR := (qmul_vb vBB hz).conv (D' := d * d) (N' := (b * b + e * e) * r) (Int.mul_pos dp dp) (by
    generalize b * b + e * e = X
    grind)
  have vSS := (qadd_vb vAA vBR).conv (D' := d * d * ((x.2 * y.2) * (x.2 * y.2))) (N' := E * E + F * F + (b * b + e * e) * r * ((x.2 * y.2) * (x.2 * y.2))) vAA.pos (by
    generalize (x.2 * y.2) * (x.2 * y.2) = X
    generalize (b * b + e * e) * r = Y
    generalize E * E + F * F = Z
    generalize d * d = D
    grind)
  have sX : Sz 172 ((x.2 * y.2) * (x.2 * y.2)) := ((l1.2.2.mul l2.2.2).mul (l1.2.2.mul l2.2.2)).mono (by decide)
  have sD : Sz 2650 (d * d * ((x.2 * y.2) * (x.2 * y.2))) := ((sd.mul sd).mul sX).mono (by decide)
  have sBB : Sz 1163 (b * b + e * e) := ((sb.mul sb).add (se.mul se)).mono (by decide)
  have sEF : Sz 2669 (E * E + F * F) := ((sE.mul sE).add (sF.mul sF)).mono (by decide)
  have sN : Sz 2670 (E * E + F * F + (b * b + e * e) * r * ((x.2 * y.2) * (x.2 * y.2))) := (sEF.add ((sBB.mul sr).mul sX)).mono (by decide)
  have qAA := QB.of_vb vAA sEF sD
  have qBB : QB 6119 6122 (qadd (qmul Q Q) (qmul T T)) := .of_vb vBB ((sBB.mul (sG.mul sG)).mono (by decide)) ((sW.mul sW).mono (by decide))
  have qBR : QB 2493 2478 (qmul (qadd (qmul Q Q) (qmul T T)) (R, 1)) := .of_vb vBR ((sBB.mul sr).mono (by decide)) ((sd.mul sd).mono (by decide))
  have qSS := QB.of_vb vSS sN sD
  have vA := qsub_vb vSS l3.1.vb
  have qA := qSS.mul l3
  have qA : QB 2873 2852 (qsub (qadd (qadd (qmul (qsub P x) (qsub P x)) (qmul (qsub S y) (qsub S y))) (qmul (qadd (qmul Q Q) (qmul T T)) (R, 1))) k) := .of_vb vA (((sN.mul l3.2.2).sub (l3.2.1.mul sD)).mono (by decide)) ((sD.mul l3.2.2).mono (by decide))
  have sEb : Sz 1916 (E * b + F * e) := ((sE.mul sb).add (sF.mul se)).mono (by decide)
  have qS2 : QB 4394 4386 (qadd (qmul (qsub P x) Q) (qmul (qsub S y) T)) := .of_vb vS ((sEb.mul sG).mono (by decide)) (((sd.mul (l1.2.2.mul l2.2.2)).mul sW).mono (by decide))
  have q21 : QB 2 1 ((2, 1) : Qn) := qbi sz_2
  have qB := q21.mul qS2
  have vB := qmul_vb h2 vS
  have vC := (qmul_vb (qmul_vb vB vB) hz).conv (D' := d * d * (d * d) * ((x.2 * y.2) * (x.2 * y.2))) (N' := 4 * ((E * b + F * e) * (E * b + F * e)) * r) (Int.mul_pos (Int.mul_pos (Int.mul_pos dp dp) (Int.mul_pos dp dp)) (Int.mul_pos (Int.mul_pos x2 y2) (Int.mul_pos x2 y2))) (by
    generalize E * b + F * e = N
    generalize x.2 * y.2 = X
    grind)
  have qC : QB 5165 5128 (qmul (qmul (qmul (2, 1) (qadd (qmul (qsub P x) Q) (qmul (qsub S y) T))) (qmul (2, 1) (qadd (qmul (qsub P x) Q) (qmul (qsub S y) T)))) (R, 1)) := .of_vb vC (((sz_4.mul (sEb.mul sEb)).mul sr).mono (by decide)) ((((sd.mul sd).mul (sd.mul sd)).mul sX).mono (by decide))
  have hm : 0 < x.2 * y.2 * k.2 := Int.mul_pos (Int.mul_pos x2 y2) k2
  have hM : 0 < (x.2 * y.2 * k.2) * (x.2 * y.2 * k.2) * (d * d) := Int.mul_pos (Int.mul_pos hm hm) (Int.mul_pos dp dp)
  have vA2 := vA.conv (N' := k.2 * ((E * E + F * F + (b * b + e * e) * r * ((x.2 * y.2) * (x.2 * y.2))) * k.2 - k.1 * (d * d * ((x.2 * y.2) * (x.2 * y.2))))) hM (by
    generalize (E * E + F * F + (b * b + e * e) * r * ((x.2 * y.2) * (x.2 * y.2))) * k.2 - k.1 * (d * d * ((x.2 * y.2) * (x.2 * y.2))) = N
    generalize x.2 * y.2 = X
    grind)
  have vB2 := vB.conv (D' := (x.2 * y.2 * k.2) * (x.2 * y.2 * k.2) * d * W) (N' := (2 * (k.2 * (x.2 * y.2 * k.2)) * (E * b + F * e)) * G) (Int.mul_pos (Int.mul_pos (Int.mul_pos hm hm) dp) wp) (by
    generalize E * b + F * e = N
    generalize x.2 * y.2 = X
    grind)
  have hsg : signBy (.circ x y k) (P, Q, S, T, R) = side (.circ x y k) (seatOf a b c e r d) := by
    rw [eu]
    refine sign_gen vA2 vB2 hG hr hR ?_
    generalize x.2 * y.2 * k.2 = m
    grind
  refine ⟨?_, hsg⟩
  exact ⟨qP.subC l1 (by decide) (by decide) (by decide), qS.subC l2 (by decide) (by decide) (by decide), q1.mulC q1 (by decide) (by decide), q2.mulC q2 (by decide) (by decide), (q1.mul q1).addC (q2.mul q2) (by decide) (by decide) (by decide),
    qQ.mulC qQ (by decide) (by decide), qT.mulC qT (by decide) (by decide), (qQ.mul qQ).addC2 (qT.mul qT) (by decide) (by decide), qBB.mulC (qbi sR) (by decide) (by decide),
    qAA.addC qBR (by decide) (by decide) (by decide),
    q1.mulC qQ (by decide) (by decide), q2.mulC qT (by decide) (by decide), (q1.mul qQ).addC (q2.mul qT) (by decide) (by decide) (by decide), q21.mulC qS2 (by decide) (by decide),
    qSS.subC l3 (by decide) (by decide) (by decide),
    ⟨qA.mulC qA (by decide) (by decide), qB.mulC qB (by decide) (by decide), (qB.mul qB).mulC (qbi sR) (by decide) (by decide), (qA.mul qA).subC2 qC (by decide) (by decide)⟩⟩
end Pl
end
section
set_option Elab.async false
set_option linter.all false
set_option autoImplicit false
set_option maxHeartbeats 1000000
/-! a seat's place, as the program reads it -/
namespace Pl
open PySem L2
theorem isq_nn (n : Int) : 0 ≤ isq n := by
  unfold isq
  omega
/-- a whole number that is a square of a fraction is a square -/
theorem sq_of {n k l : Int} (hn : 0 ≤ n) (hk : k ≠ 0) (e : n * (k * k) = l * l) : isq n * isq n = n := by
  have e2 : n.natAbs * (k.natAbs * k.natAbs) = l.natAbs * l.natAbs := by
    have := congrArg Int.natAbs e
    rw [Int.natAbs_mul, Int.natAbs_mul, Int.natAbs_mul] at this
    exact this
  have hd : k.natAbs ^ 2 ∣ l.natAbs ^ 2 := ⟨n.natAbs, by rw [Nat.pow_two, Nat.pow_two, ← e2, Nat.mul_comm]⟩
  obtain ⟨j, hj⟩ := (Nat.pow_dvd_pow_iff (by decide)).mp hd
  have kp : 0 < k.natAbs * k.natAbs := Nat.mul_pos (by omega) (by omega)
  have e3 : n.natAbs = j * j := by
    rw [hj] at e2
    have e4 : (k.natAbs * k.natAbs) * n.natAbs = (k.natAbs * k.natAbs) * (j * j) := by grind
    exact Nat.eq_of_mul_eq_mul_left kp e4
  have en : n = ((j * j : Nat) : Int) := by omega
  rw [en, isq_of_sq]
  exact (Int.natCast_mul j j).symm
theorem nn_sq {x y : Int} (hx : 0 ≤ x) (hy : 0 ≤ y) (e : x * x = y * y) : x = y := by
  have h : (x - y) * (x + y) = 0 := by grind
  rcases Int.mul_eq_zero.mp h with z | z
  · omega
  · omega
/-- |b| and the sign of b -/
theorem abs_of (b : Int) (hb : b ≠ 0) : ∃ β u : Int, 0 < β ∧ (if decide (0 < b) = true then (1 : Int) else -1) = u ∧ u * β = b ∧ β * β = b * b ∧ (u = 1 ∨ u = -1) ∧ β.natAbs = b.natAbs := by
  rcases Int.lt_or_gt_of_ne hb with z | z
  · exact ⟨-b, -1, by omega, if_neg (by simp; omega), by omega, by grind, .inr rfl, by omega⟩
  · exact ⟨b, 1, z, if_pos (by simpa using z), by omega, rfl, .inl rfl, rfl⟩
/-- what an irrational number of a seat becomes -/
structure RtN (a b r d p q s g : Int) : Prop where
  p0 : 0 < p
  g0 : 0 < g
  ep : p * g = d * d
  eq : q * g = 0 - 2 * a * d
  es : s * g = a * a - b * b * r
  gcd : Nat.gcd (Nat.gcd p.natAbs q.natAbs) s.natAbs = 1
  sp : Sz 2478 p
  sq : Sz 2488 q
  ss : Sz 2493 s
  sg : Sz 2478 g
theorem rt_num {a b r d : Int} (hb : b ≠ 0) (hl : lsq r = false) (hd : 0 < d) (sa : Sz 1246 a) (sb : Sz 581 b) (sr : Sz 1330 r) (sd : Sz 1239 d) : ∃ p q s g, formed (a, b, r, d) = .rt p q s (decide (0 < b)) ∧ RtN a b r d p q s g := by
  have hp : 0 < d * d := Int.mul_pos hd hd
  have g1 : 0 < common (common (d * d) (0 - 2 * a * d)) (a * a - b * b * r) := common_pos (.inl (by have := common_pos (a := d * d) (b := 0 - 2 * a * d) (.inl (by omega)); omega))
  have d0 : common (common (d * d) (0 - 2 * a * d)) (a * a - b * b * r) ∣ common (d * d) (0 - 2 * a * d) := common_dvd_l _ _
  have d1 := Int.dvd_trans d0 (common_dvd_l (d * d) (0 - 2 * a * d))
  have d2 := Int.dvd_trans d0 (common_dvd_r (d * d) (0 - 2 * a * d))
  have d3 := common_dvd_r (common (d * d) (0 - 2 * a * d)) (a * a - b * b * r)
  have s1 : Sz 2478 (d * d) := (sd.mul sd).mono (by decide)
  have s2 : Sz 2488 (0 - 2 * a * d) := by
    rw [Int.zero_sub]
    exact (((sz_2.mul sa).mul sd).mono (by decide)).neg
  have s3 : Sz 2493 (a * a - b * b * r) := ((sa.mul sa).sub ((sb.mul sb).mul sr)).mono (by decide)
  have hg : (common (common (d * d) (0 - 2 * a * d)) (a * a - b * b * r)).natAbs = Nat.gcd (Nat.gcd (d * d).natAbs (0 - 2 * a * d).natAbs) (a * a - b * b * r).natAbs := rfl
  have ef : formed (a, b, r, d) = .rt (d * d / common (common (d * d) (0 - 2 * a * d)) (a * a - b * b * r)) ((0 - 2 * a * d) / common (common (d * d) (0 - 2 * a * d)) (a * a - b * b * r)) ((a * a - b * b * r) / common (common (d * d) (0 - 2 * a * d)) (a * a - b * b * r)) (decide (0 < b)) := by
    unfold formed
    simp only
    rw [if_neg (by rw [hl]; simp [hb])]
  have z1 := sz_div s1 d1
  have z2 := sz_div s2 d2
  have z3 := sz_div s3 d3
  have sg : Sz 2478 (common (common (d * d) (0 - 2 * a * d)) (a * a - b * b * r)) := by
    refine s1.le ?_
    exact Nat.le_of_dvd (by omega) (Int.natAbs_dvd_natAbs.mpr d1)
  refine ⟨_, _, _, common (common (d * d) (0 - 2 * a * d)) (a * a - b * b * r), ef, ?_⟩
  have m1 := Int.ediv_mul_cancel d1
  have m2 := Int.ediv_mul_cancel d2
  have m3 := Int.ediv_mul_cancel d3
  generalize common (common (d * d) (0 - 2 * a * d)) (a * a - b * b * r) = g at *
  generalize d * d / g = p at *
  generalize (0 - 2 * a * d) / g = q at *
  generalize (a * a - b * b * r) / g = s at *
  refine ⟨?_, g1, m1, m2, m3, ?_, z1, z2, z3, sg⟩
  · rcases Int.lt_or_le 0 p with z | z
    · exact z
    · have := Int.mul_nonneg (show 0 ≤ -p by omega) (Int.le_of_lt g1)
      rw [Int.neg_mul] at this
      omega
  · rw [← m1, ← m2, ← m3, Int.natAbs_mul, Int.natAbs_mul, Int.natAbs_mul, Nat.gcd_mul_right, Nat.gcd_mul_right] at hg
    have gp : 0 < g.natAbs := by omega
    have : 1 * g.natAbs = Nat.gcd (Nat.gcd p.natAbs q.natAbs) s.natAbs * g.natAbs := by omega
    exact (Nat.eq_of_mul_eq_mul_right gp this).symm
section
variable {a b r d p q s g : Int}
theorem RtN.dsc (h : RtN a b r d p q s g) : disc p q s * (g * g) = 4 * (d * d) * (b * b) * r := by
  have h1 := h.ep
  have h2 := h.eq
  have h3 := h.es
  have e1 : (q * g) * (q * g) - 4 * (p * g) * (s * g) = 4 * (d * d) * (b * b) * r := by
    rw [h1, h2, h3]
    grind
  unfold Pl.disc
  grind
theorem RtN.pos (h : RtN a b r d p q s g) (hb : b ≠ 0) (hr : 0 < r) (hd : 0 < d) : 0 < disc p q s := by
  have e := h.dsc
  have h1 := Int.mul_pos h.g0 h.g0
  have h2 : 0 < b * b := by
    rcases Int.lt_or_gt_of_ne hb with z | z
    · exact Int.mul_pos_of_neg_of_neg z z
    · exact Int.mul_pos z z
  have h3 : 0 < 4 * (d * d) * (b * b) * r := Int.mul_pos (Int.mul_pos (Int.mul_pos (by decide) (Int.mul_pos hd hd)) h2) hr
  rw [← e] at h3
  rcases Int.lt_or_le 0 (Pl.disc p q s) with z | z
  · exact z
  · have := Int.mul_nonneg (show 0 ≤ -Pl.disc p q s by omega) (Int.le_of_lt h1)
    rw [Int.neg_mul] at this
    omega
theorem RtN.nsq (h : RtN a b r d p q s g) (hb : b ≠ 0) (hr : 0 < r) (hd : 0 < d) (hl : lsq r = false) : isSq (disc p q s) = false := by
  unfold isSq
  refine decide_eq_false fun z => ?_
  have e := h.dsc
  rw [← z] at e
  have e2 : r * ((2 * d * b) * (2 * d * b)) = (isq (Pl.disc p q s) * g) * (isq (Pl.disc p q s) * g) := by
    generalize isq (Pl.disc p q s) = t at *
    grind
  have := sq_of (Int.le_of_lt hr) (Int.mul_ne_zero (Int.mul_ne_zero (by decide) (by omega)) hb) e2
  unfold lsq at hl
  rw [decide_eq_true (Int.le_of_lt hr), decide_eq_true this] at hl
  cases hl
theorem RtN.sdisc (h : RtN a b r d p q s g) (sb : Sz 581 b) (sr : Sz 1330 r) (sd : Sz 1239 d) : Sz 4973 (disc p q s) := by
  have e := h.dsc
  have z : Sz 4973 (4 * (d * d) * (b * b) * r) := (((sz_4.mul (sd.mul sd)).mul (sb.mul sb)).mul sr).mono (by decide)
  refine z.le ?_
  rw [← e, Int.natAbs_mul]
  refine Nat.le_mul_of_pos_right _ ?_
  rw [Int.natAbs_mul]
  have := h.g0
  exact Nat.mul_pos (by omega) (by omega)
theorem RtN.v1 (h : RtN a b r d p q s g) (hd : 0 < d) : VB (ratio (-q) (2 * p)) a d := by
  have p0 := h.p0
  refine (ratio_vb (by omega)).conv hd ?_
  have h1 := h.ep
  have h2 := h.eq
  have : g * (-q * d) = g * (a * (2 * p)) := by grind
  exact Int.eq_of_mul_eq_mul_left (by have := h.g0; omega) this
theorem RtN.v2 (h : RtN a b r d p q s g) (hd : 0 < d) {β u : Int} (hβ : 0 < β) (hu : u * β = b) : VB (ratio u (2 * p)) (b * g) (2 * (d * d) * β) := by
  have p0 := h.p0
  refine (ratio_vb (by omega)).conv (Int.mul_pos (Int.mul_pos (by decide) (Int.mul_pos hd hd)) hβ) ?_
  have h1 := h.ep
  grind
theorem RtN.q2 (h : RtN a b r d p q s g) {u : Int} (hu : u = 1 ∨ u = -1) : QB 1 2480 (ratio u (2 * p)) := by
  have p0 := h.p0
  refine .of_vb (ratio_vb (by omega)) ?_ ((sz_2.mul h.sp).mono (by decide))
  rcases hu with rfl | rfl
  · exact sz_1
  · exact sz_m1
theorem RtN.ne2 (h : RtN a b r d p q s g) {u : Int} (hu : u = 1 ∨ u = -1) : ratio u (2 * p) ≠ (0, 1) := fun z => by
  have p0 := h.p0
  have e := (ratio_vb (t := u) (l := 2 * p) (by omega)).eq
  rw [z] at e
  simp at e
  omega
theorem RtN.pt (h : RtN a b r d p q s g) (up : Bool) : PtC (.rt p q s up) :=
  ⟨h.p0, h.sp.mono (by decide), h.sq.mono (by decide), h.ss.mono (by decide), .inl ((sz_2.mul h.sp).mono (by decide)), .inl ((sz_2.mul h.sp).mono (by decide)), .inl ((sz_2.mul h.sp).mono (by decide))⟩
theorem RtN.num (h : RtN a b r d p q s g) (hb : b ≠ 0) (hr : 0 < r) (hd : 0 < d) (hl : lsq r = false) (up : Bool) : NumOk 6000 (.rt p q s up) :=
  ⟨h.p0, h.gcd, h.pos hb hr hd, h.nsq hb hr hd hl, h.sp.mono (by decide), h.sq.mono (by decide), h.ss.mono (by decide)⟩
end
end Pl
end
section
set_option Elab.async false
set_option linter.all false
set_option autoImplicit false
set_option maxHeartbeats 1000000
/-! every seat's side is told right -/
namespace Pl
open PySem L2
theorem lsign_0 (A r : Int) : lsign A 0 r = sgn A := by
  unfold lsign
  have e : (if 0 < r then sgn 0 else 0) = 0 := by split <;> rfl
  simp only
  rw [e, if_pos (.inr rfl)]
theorem side_c (x y k : Qn) (a b c e r d : Int) : side (.circ x y k) (seatOf a b c e r d) =
    lsign (((ring x y k).2.2.2 * a - (ring x y k).1 * d) * ((ring x y k).2.2.2 * a - (ring x y k).1 * d) + ((ring x y k).2.2.2 * c - (ring x y k).2.1 * d) * ((ring x y k).2.2.2 * c - (ring x y k).2.1 * d) + (((ring x y k).2.2.2 * b) * ((ring x y k).2.2.2 * b) + ((ring x y k).2.2.2 * e) * ((ring x y k).2.2.2 * e)) * r - (ring x y k).2.2.1 * d * d)
      (2 * (((ring x y k).2.2.2 * a - (ring x y k).1 * d) * ((ring x y k).2.2.2 * b) + ((ring x y k).2.2.2 * c - (ring x y k).2.1 * d) * ((ring x y k).2.2.2 * e))) r := rfl
theorem inOne_rt {n o : Num} (h1 : (partsOf n).2.1 ≠ (0, 1)) (h2 : (partsOf o).2.1 ≠ (0, 1)) : inOne n o = ((partsOf n).1, (partsOf n).2.1, (partsOf o).1, qmul (partsOf o).2.1 (ratio (isq ((partsOf n).2.2 * (partsOf o).2.2)) (partsOf n).2.2), (partsOf n).2.2) := by
  unfold inOne
  rw [if_neg h1, if_pos h2]
theorem inOne_fr {n : Num} {y : Qn} (h1 : (partsOf n).2.1 ≠ (0, 1)) : inOne n (.fr y) = ((partsOf n).1, (partsOf n).2.1, y, (0, 1), (partsOf n).2.2) := by
  have q0 : qmul (0, 1) (1, 1) = (0, 1) := by decide
  unfold inOne
  rw [if_neg h1]
  show (_, _, y, qmul (0, 1) (if ((0, 1) : Qn) ≠ (0, 1) then _ else (1, 1)), _) = _
  rw [if_neg (fun z => z rfl), q0]
theorem side_sq {a b c e w d : Int} (hw : 0 ≤ w) (cv : Cv) : side cv (seatOf a b c e (w * w) d) = side cv (seatOf (a + b * w) 0 (c + e * w) 0 1 d) := by
  cases cv with
  | line α β γ =>
    show lsign ((bar α β γ).1 * a + (bar α β γ).2.1 * c - (bar α β γ).2.2 * d) ((bar α β γ).1 * b + (bar α β γ).2.1 * e) (w * w) = lsign ((bar α β γ).1 * (a + b * w) + (bar α β γ).2.1 * (c + e * w) - (bar α β γ).2.2 * d) ((bar α β γ).1 * 0 + (bar α β γ).2.1 * 0) 1
    rw [lsign_sq hw, Int.mul_zero, Int.mul_zero, Int.add_zero, lsign_0]
    congr 1
    grind
  | circ x y k =>
    rw [side_c, side_c]
    generalize ring x y k = z
    obtain ⟨u, v, t, m⟩ := z
    have e0 : 2 * ((m * (a + b * w) - u * d) * (m * 0) + (m * (c + e * w) - v * d) * (m * 0)) = 0 := by grind
    simp only
    rw [e0, lsign_0, lsign_sq hw]
    congr 1
    grind
theorem side_0 {a c r d : Int} (cv : Cv) : side cv (seatOf a 0 c 0 r d) = side cv (seatOf a 0 c 0 1 d) := by
  cases cv with
  | line α β γ =>
    show lsign _ ((bar α β γ).1 * 0 + (bar α β γ).2.1 * 0) r = lsign _ ((bar α β γ).1 * 0 + (bar α β γ).2.1 * 0) 1
    rw [Int.mul_zero, Int.mul_zero, Int.add_zero, lsign_0, lsign_0]
  | circ x y k =>
    rw [side_c, side_c]
    generalize ring x y k = z
    obtain ⟨u, v, t, m⟩ := z
    have e0 : 2 * ((m * a - u * d) * (m * 0) + (m * c - v * d) * (m * 0)) = 0 := by grind
    simp only
    rw [e0, lsign_0, lsign_0]
    congr 1
    grind
theorem vb0 {d : Int} (h : 0 < d) (k : Int) : VB ((0, 1) : Qn) (0 * k) d := ⟨⟨by decide, by decide⟩, h, by simp⟩
theorem num_fr {x : Qn} {a d : Int} (hx : VB x a d) (sa : Sz 1247 a) (sd : Sz 1239 d) : NumOk 6000 (.fr x) := ⟨hx.red, (hx.s1 sa).mono (by decide), (hx.s2 sd).mono (by decide)⟩
theorem rep_fr {x y : Qn} {a c d : Int} (hx : VB x a d) (hy : VB y c d) (sa : Sz 1247 a) (sc : Sz 1247 c) (sd : Sz 1239 d) : PlOk (.fr x) (.fr y) ∧ InC (.fr x) (.fr y) ∧ Rep a 0 c 0 1 d (inOne (.fr x) (.fr y)) := by
  have e : inOne (.fr x) (.fr y) = (x, (0, 1), y, (0, 1), 1) := if_pos rfl
  rw [e]
  have z0 : ∀ n, 1 ≤ n → Sz n 0 := fun n h => sz_0.mono h
  have z1 : ∀ n, 1 ≤ n → Sz n 1 := fun n h => sz_1.mono h
  exact ⟨⟨num_fr hx sa sd, num_fr hy sc sd, trivial, trivial, trivial⟩, ⟨trivial, trivial, trivial, trivial⟩,
    ⟨1, d, by decide, hx, hy, vb0 hx.pos 1, vb0 hx.pos 1, (by decide : (1 : Int) ≠ 0), by decide, rfl, z1 _ (by decide), sd.mono (by decide), z1 _ (by decide), sa, sc, z0 _ (by decide), z0 _ (by decide), z1 _ (by decide), sd⟩⟩
section
variable {a b c e r d : Int}
theorem seat_good (hr0 : 0 ≤ r) (hd : 0 < d) (hz : r = 0 → b = 0 ∧ e = 0) (sa : Sz 1246 a) (sc : Sz 1246 c) (sb : Sz 581 b) (se : Sz 581 e) (sr : Sz 1330 r) (sd : Sz 1239 d) :
    PlOk (formed (a, b, r, d)) (formed (c, e, r, d)) ∧ InC (formed (a, b, r, d)) (formed (c, e, r, d)) ∧
      ∃ a' b' c' e' r', Rep a' b' c' e' r' d (inOne (formed (a, b, r, d)) (formed (c, e, r, d))) ∧ ∀ cv, side cv (seatOf a b c e r d) = side cv (seatOf a' b' c' e' r' d) := by
  have s1 := sa.mono (show 1246 ≤ 1247 by decide)
  have s2 := sc.mono (show 1246 ≤ 1247 by decide)
  cases hl : lsq r with
  | true =>
    have hw : isq r * isq r = r := by
      unfold lsq at hl
      rw [decide_eq_true hr0] at hl
      simpa using hl
    have f1 : formed (a, b, r, d) = .fr (ratio (a + b * isq r) d) := by
      unfold formed
      exact if_pos (.inr hl)
    have f2 : formed (c, e, r, d) = .fr (ratio (c + e * isq r) d) := by
      unfold formed
      exact if_pos (.inr hl)
    rw [f1, f2]
    have sw : Sz 665 (isq r) := sz_isq (k := 665) sr
    obtain ⟨p1, p2, p3⟩ := rep_fr (ratio_vb (t := a + b * isq r) hd) (ratio_vb (t := c + e * isq r) hd) ((sa.add (sb.mul sw)).mono (by decide)) ((sc.add (se.mul sw)).mono (by decide)) sd
    refine ⟨p1, p2, _, _, _, _, _, p3, fun cv => ?_⟩
    have := side_sq (a := a) (b := b) (c := c) (e := e) (d := d) (isq_nn r) cv
    rw [hw] at this
    exact this
  | false =>
    have hr : 0 < r := by
      rcases Int.lt_or_eq_of_le hr0 with z | z
      · exact z
      · subst z
        exact absurd hl (by decide +kernel)
    have ff : ∀ a : Int, formed (a, 0, r, d) = .fr (ratio a d) := fun a => by
      have z : formed (a, 0, r, d) = .fr (ratio (a + 0 * isq r) d) := if_pos (.inl rfl)
      rw [z, Int.zero_mul, Int.add_zero]
    by_cases hb : b = 0
    · subst hb
      by_cases he : e = 0
      · subst he
        rw [ff, ff]
        obtain ⟨p1, p2, p3⟩ := rep_fr (ratio_vb (t := a) hd) (ratio_vb (t := c) hd) s1 s2 sd
        exact ⟨p1, p2, _, _, _, _, _, p3, fun cv => side_0 cv⟩
      · obtain ⟨p, q, s, g, f2, N⟩ := rt_num (a := c) he hl hd sc se sr sd
        rw [ff, f2]
        obtain ⟨β, u, h1, h2, h3, h4, h5, h6⟩ := abs_of e he
        have sβ : Sz 581 β := se.le (by omega)
        have en : inOne (.fr (ratio a d)) (.rt p q s (decide (0 < e))) = (ratio a d, (0, 1), ratio (-q) (2 * p), ratio u (2 * p), disc p q s) := by
          rw [← h2]
          exact if_pos rfl
        refine ⟨⟨num_fr (ratio_vb hd) s1 sd, N.num he hr hd hl _, trivial, N.pt _, trivial⟩, ⟨trivial, N.pt _, trivial, trivial⟩, a, 0, c, e, r, ?_, fun _ => rfl⟩
        rw [en]
        have hW := Int.mul_pos (Int.mul_pos (show (0 : Int) < 2 by decide) (Int.mul_pos hd hd)) h1
        refine ⟨g, 2 * (d * d) * β, N.g0, ratio_vb hd, N.v1 hd, vb0 hW g, N.v2 hd h1 h3, by show disc p q s ≠ 0; have := N.pos he hr hd; omega, hr, ?_, N.sg, ((sz_2.mul (sd.mul sd)).mul sβ).mono (by decide), N.sdisc se sr sd, s1, s2, sb, se, sr, sd⟩
        have e1 := N.dsc
        simp only
        grind
    · obtain ⟨p, q, s, g, f1, N⟩ := rt_num (a := a) hb hl hd sa sb sr sd
      obtain ⟨β, u, h1, h2, h3, h4, h5, h6⟩ := abs_of b hb
      have sβ : Sz 581 β := sb.le (by omega)
      have hW := Int.mul_pos (Int.mul_pos (show (0 : Int) < 2 by decide) (Int.mul_pos hd hd)) h1
      have sW : Sz 3061 (2 * (d * d) * β) := ((sz_2.mul (sd.mul sd)).mul sβ).mono (by decide)
      have eW : disc p q s * (g * g) * (d * d) = r * (2 * (d * d) * β * (2 * (d * d) * β)) := by
        have e1 := N.dsc
        grind
      have hD := N.pos hb hr hd
      have hu := N.ne2 h5
      by_cases he : e = 0
      · subst he
        rw [f1, ff]
        have en : inOne (.rt p q s (decide (0 < b))) (.fr (ratio c d)) = (ratio (-q) (2 * p), ratio u (2 * p), ratio c d, (0, 1), disc p q s) := by
          rw [← h2] at hu ⊢
          exact inOne_fr (n := .rt p q s (decide (0 < b))) hu
        refine ⟨⟨N.num hb hr hd hl _, num_fr (ratio_vb hd) s2 sd, N.pt _, trivial, trivial⟩, ⟨N.pt _, trivial, trivial, trivial⟩, a, b, c, 0, r, ?_, fun _ => rfl⟩
        rw [en]
        exact ⟨g, 2 * (d * d) * β, N.g0, N.v1 hd, ratio_vb hd, N.v2 hd h1 h3, vb0 hW g, by show disc p q s ≠ 0; omega, hr, eW, N.sg, sW, N.sdisc sb sr sd, s1, s2, sb, se, sr, sd⟩
      · obtain ⟨p2, q2, s2', g2, f2, N2⟩ := rt_num (a := c) he hl hd sc se sr sd
        rw [f1, f2]
        obtain ⟨β2, u2, k1, k2, k3, k4, k5, k6⟩ := abs_of e he
        have hD2 := N2.pos he hr hd
        have hu2 := N2.ne2 k5
        have e1 := N.dsc
        have e2 := N2.dsc
        have sD1 := N.sdisc sb sr sd
        have sD2 := N2.sdisc se sr sd
        have g0 := N.g0
        have g20 := N2.g0
        have p20 := N2.p0
        have ep2 := N2.ep
        have hDD := Int.mul_pos hD hD2
        -- the root of the product
        have eM0 : disc p q s * disc p2 q2 s2' * ((g * g2) * (g * g2)) = (4 * (d * d) * β * β2 * r) * (4 * (d * d) * β * β2 * r) := by
          generalize disc p q s = D at *
          generalize disc p2 q2 s2' = D2 at *
          have : D * D2 * ((g * g2) * (g * g2)) = (D * (g * g)) * (D2 * (g2 * g2)) := by grind
          rw [this, e1, e2, ← h4, ← k4]
          grind
        have eM := sq_of (Int.le_of_lt hDD) (Int.mul_ne_zero (by omega) (by omega)) eM0
        have sM : Sz 4973 (isq (disc p q s * disc p2 q2 s2')) := sz_isq ((sD1.mul sD2).mono (by decide))
        have sDD : Sz 13400 (disc p q s * disc p2 q2 s2') := (sD1.mul sD2).mono (by decide)
        have isS : isSq (disc p q s * disc p2 q2 s2') = true := decide_eq_true eM
        have fc : FieldC (.rt p q s (decide (0 < b))) (.rt p2 q2 s2' (decide (0 < e))) := ⟨hD, hD2, sDD, isS⟩
        have eM1 : isq (disc p q s * disc p2 q2 s2') * (g * g2) = 4 * (d * d) * β * β2 * r := by
          refine nn_sq (Int.mul_nonneg (isq_nn _) (Int.le_of_lt (Int.mul_pos g0 g20))) (Int.le_of_lt (Int.mul_pos (Int.mul_pos (Int.mul_pos (Int.mul_pos (by decide) (Int.mul_pos hd hd)) h1) k1) hr)) ?_
          have t0 : ∀ M : Int, M * (g * g2) * (M * (g * g2)) = M * M * ((g * g2) * (g * g2)) := fun M => by grind
          rw [t0, eM, eM0]
        have qR : QB 4973 4973 (ratio (isq (disc p q s * disc p2 q2 s2')) (disc p q s)) := .of_vb (ratio_vb hD) sM sD1
        have qu2 := N2.q2 k5
        have en : inOne (.rt p q s (decide (0 < b))) (.rt p2 q2 s2' (decide (0 < e))) = (ratio (-q) (2 * p), ratio u (2 * p), ratio (-q2) (2 * p2), qmul (ratio u2 (2 * p2)) (ratio (isq (disc p q s * disc p2 q2 s2')) (disc p q s)), disc p q s) := by
          rw [← h2] at hu ⊢
          rw [← k2] at hu2 ⊢
          exact inOne_rt (n := .rt p q s (decide (0 < b))) (o := .rt p2 q2 s2' (decide (0 < e))) hu hu2
        refine ⟨⟨N.num hb hr hd hl _, N2.num he hr hd hl _, N.pt _, N2.pt _, fc⟩, ⟨N.pt _, N2.pt _, fc, ?_⟩, a, b, c, e, r, ?_, fun _ => rfl⟩
        · refine ⟨.inl (sD1.mono (by decide)), ?_⟩
          show MulC (ratio (if decide (0 < e) = true then 1 else -1) (2 * p2)) _
          rw [k2]
          exact qu2.mulC qR (by decide) (by decide)
        · rw [en]
          refine ⟨g, 2 * (d * d) * β, N.g0, N.v1 hd, N2.v1 hd, N.v2 hd h1 h3, ?_, by show disc p q s ≠ 0; omega, hr, eW, N.sg, sW, sD1, s1, s2, sb, se, sr, sd⟩
          refine (qmul_vb (ratio_vb (t := u2) (l := 2 * p2) (by omega)) (ratio_vb (t := isq (disc p q s * disc p2 q2 s2')) hD)).conv hW ?_
          generalize isq (disc p q s * disc p2 q2 s2') = M at *
          generalize disc p q s = D at *
          have key : (g * g2) * (u2 * M * (2 * (d * d) * β)) = (g * g2) * (e * g * (2 * p2 * D)) := by
            have t1 : (g * g2) * (u2 * M * (2 * (d * d) * β)) = (M * (g * g2)) * u2 * (2 * (d * d) * β) := by grind
            have t2 : (g * g2) * (e * g * (2 * p2 * D)) = 2 * e * (p2 * g2) * (D * (g * g)) := by grind
            rw [t1, t2, eM1, e1, ep2, ← k3, ← h4]
            grind
          exact Int.eq_of_mul_eq_mul_left (Int.mul_ne_zero (by omega) (by omega)) key
end
theorem good_all (c : Cv) (z : Seat) (hc : Lv3 c) (h : SeatL z) : Good c z := by
  obtain ⟨x, b, y, e, r, d, rfl, h1, h2, h3, s1, s2, s3, s4, s5, s6⟩ := h.is
  obtain ⟨p1, p2, a', b', c', e', r', hR, hS⟩ := seat_good h1 h2 h3 s1 s2 s3 s4 s5 s6
  cases c with
  | line α β γ =>
    obtain ⟨q1, q2⟩ := rep_line hR hc
    exact ⟨p1, p2, q1, q2.trans (hS _).symm⟩
  | circ p q k =>
    have hC : CircB 49 43 211 202 p q k := by
      rcases hc with hc | hc
      · exact hc.mono (by decide) (by decide) (by decide) (by decide)
      · exact hc.mono (by decide) (by decide) (by decide) (by decide)
    obtain ⟨q1, q2⟩ := rep_circ hR hC
    exact ⟨p1, p2, q1, q2.trans (hS _).symm⟩
end Pl
end
section
set_option Elab.async false
set_option linter.all false
set_option maxRecDepth 100000
set_option maxHeartbeats 0
/-! the facts that the head tells -/
namespace Pl
open PySem PySem.Spec PyProof.Rows L2
theorem tx_of {K : PySem.W.Frag} {h : Heap} {mg : Str → Option Value} {w : World} (X : K.In h) (G : h.Ns mainGlobals mg) (c : He.SaysX faL fnL [] [] exL w h K) : Tx K mg := by
  have cd := c.t.d
  have ce := c.more
  unfold exL at ce
  obtain ⟨c1, ce⟩ := He.ba ce
  obtain ⟨c2, ce⟩ := He.ba ce
  obtain ⟨c3, ce⟩ := He.ba ce
  obtain ⟨c4, c5⟩ := He.ba ce
  refine ⟨fun q hq => ⟨?_, ?_⟩, fun x hx => ?_, PySem.W.mg_of X G (He.eqO_ok c4), PySem.W.mg_of X G (He.eqO_ok c5), ?_, ?_, ?_, He.tupB_ok c1, He.tupB_ok c2, He.tupB_ok c3⟩
  · exact cd.defs (d := ⟨(q.1, none), q.1, q.1, defArgs q.2, defBody q.2, defScope q.2, [], []⟩) (List.mem_map.mpr ⟨q, hq, rfl⟩)
  · exact He.glo_ok X G (cd.facts (List.mem_append_left _ (List.mem_map.mpr ⟨q, hq, rfl⟩)))
  · exact He.free_ok X G (cd.facts (List.mem_append_right _ (List.mem_append_left _ (List.mem_map.mpr ⟨x, hx, rfl⟩))))
  · exact He.glo_ok X G (cd.facts (List.mem_append_right _ (List.mem_append_right _ (by simp))))
  · exact He.glo_ok X G (cd.facts (List.mem_append_right _ (List.mem_append_right _ (by simp))))
  · exact He.glo_ok X G (cd.facts (List.mem_append_right _ (List.mem_append_right _ (by simp))))
end Pl
end
section
set_option Elab.async false
set_option linter.all false
set_option maxRecDepth 100000
set_option maxHeartbeats 0
namespace Pl
open PySem PySem.Spec PyProof.Rows L2
theorem ok_all {P : Program} {w : World} {K : PySem.W.Frag} {mg : Str → Option Value} {base : Heap} (T : Tx K mg) (hgood : ∀ c z, Lv3 c → SeatL z → Good c z) : GdG P w K mg base 9 "law" ["_law_script"] (spLaw K) := by
  have Gis_whole : Gd P w K mg base 1 "is_whole" ["value"] (spP K S_is_whole) := okis_whole T 
  have Gis_truth : Gd P w K mg base 1 "is_truth" ["value"] (spP K S_is_truth) := okis_truth T 
  have Gare_wholes : Gd P w K mg base 2 "are_wholes" ["value", "many"] (spP K S_are_wholes) := okare_wholes T Gis_whole
  have Gis_ratio : Gd P w K mg base 3 "is_ratio" ["value"] (spP K S_is_ratio) := okis_ratio T Gare_wholes
  have Gratio : Gd P w K mg base 1 "ratio" ["top", "low"] (spP K S_ratio) := okratio T 
  have Gplus : Gd P w K mg base 2 "plus" ["one", "two"] (spP K S_plus) := okplus T Gratio
  have Gminus : Gd P w K mg base 2 "minus" ["one", "two"] (spP K S_minus) := okminus T Gratio
  have Gtimes : Gd P w K mg base 2 "times" ["one", "two"] (spP K S_times) := oktimes T Gratio
  have Gsign_of : Gd P w K mg base 1 "sign_of" ["one"] (spP K S_sign_of) := oksign_of T 
  have Gis_square : Gd P w K mg base 1 "is_square" ["number"] (spP K S_is_square) := okis_square T 
  have Gis_rooted : Gd P w K mg base 3 "is_rooted" ["value"] (spP K S_is_rooted) := okis_rooted T Gare_wholes Gis_truth Gis_square
  have Gis_numbered : Gd P w K mg base 4 "is_numbered" ["value"] (spP K S_is_numbered) := okis_numbered T Gis_ratio Gis_rooted
  have Gparts_of : Gd P w K mg base 2 "parts_of" ["number"] (spP K S_parts_of) := okparts_of T Gratio
  have Gsign_one : Gd P w K mg base 3 "sign_one" ["a", "b", "r"] (spP K S_sign_one) := oksign_one T Gsign_of Gminus Gtimes
  have Gdo_lie_in_one : Gd P w K mg base 3 "do_lie_in_one" ["number", "other"] (spP K S_do_lie_in_one) := okdo_lie_in_one T Gis_square Gparts_of
  have Gin_one : Gd P w K mg base 3 "in_one" ["number", "other"] (spP K S_in_one) := okin_one T Gparts_of Gratio Gtimes
  have Gis_placed : Gd P w K mg base 5 "is_placed" ["value"] (spP K S_is_placed) := okis_placed T Gdo_lie_in_one Gis_numbered
  have Gis_curved : Gd P w K mg base 4 "is_curved" ["value"] (spP K S_is_curved) := okis_curved T Gis_ratio
  have Gis_line : Gd P w K mg base 1 "is_line" ["curve"] (spP K S_is_line) := okis_line T 
  have Gsign_by : Gd P w K mg base 4 "sign_by" ["curve", "place"] (spP K S_sign_by) := oksign_by T Gin_one Gis_line Gplus Gtimes Gsign_one Gminus
  have Gcheck_place : Gd P w K mg base 6 "check_place" ["value"] (spP K S_check_place) := okcheck_place T Gis_placed
  have Gcheck_curve : Gd P w K mg base 5 "check_curve" ["value"] (spP K S_check_curve) := okcheck_curve T Gis_curved
  have Gis_place : Gd P w K mg base 6 "is_place" ["value"] (spP K S_is_place) := okis_place T Gis_placed
  have Gsign_at : Gd P w K mg base 7 "sign_at" ["curve", "place"] (spP K S_sign_at) := oksign_at T Gcheck_curve Gcheck_place Gsign_by
  have G_law_well : Gd P w K mg base 1 "_law_well" ["_law_script", "_law_at"] (spMake K) := ok_law_well T 
  have G_law_draw : Gd P w K mg base 1 "_law_draw" ["_law_well_here", "_law_many"] (spW K S_draw) := ok_law_draw T 
  have G_law_pick : Gd P w K mg base 2 "_law_pick" ["_law_well_here", "_law_some"] (spPick K) := ok_law_pick T G_law_draw
  have G_law_common : Gd P w K mg base 1 "_law_common" ["_law_one", "_law_two"] (spP K S_common) := ok_law_common T 
  have G_law_lean : Gd P w K mg base 2 "_law_lean" ["_law_top", "_law_low"] (spP K S_lean) := ok_law_lean T G_law_common
  have G_law_add : Gd P w K mg base 3 "_law_add" ["_law_one", "_law_two"] (spP K S_add) := ok_law_add T G_law_lean
  have G_law_mul : Gd P w K mg base 3 "_law_mul" ["_law_one", "_law_two"] (spP K S_mul) := ok_law_mul T G_law_lean
  have G_law_neg : Gd P w K mg base 1 "_law_neg" ["_law_one"] (spP K S_neg) := ok_law_neg T 
  have G_law_root : Gd P w K mg base 1 "_law_root" ["_law_number"] (spP K S_root) := ok_law_root T 
  have G_law_is_square : Gd P w K mg base 2 "_law_is_square" ["_law_number"] (spP K S_lsq) := ok_law_is_square T G_law_root
  have G_law_sign : Gd P w K mg base 1 "_law_sign" ["_law_number"] (spP K S_lsgn) := ok_law_sign T 
  have G_law_sign_one : Gd P w K mg base 2 "_law_sign_one" ["_law_a", "_law_b", "_law_r"] (spP K S_lsign) := ok_law_sign_one T G_law_sign
  have G_law_spread : Gd P w K mg base 1 "_law_spread" ["_law_number"] (spP K S_spread) := ok_law_spread T 
  have G_law_formed : Gd P w K mg base 3 "_law_formed" ["_law_one"] (spP K S_formed) := ok_law_formed T G_law_common G_law_is_square G_law_lean G_law_root
  have G_law_both : Gd P w K mg base 2 "_law_both" ["_law_one", "_law_two"] (spP K S_both) := ok_law_both T G_law_root
  have G_law_seat : Gd P w K mg base 3 "_law_seat" ["_law_place_here"] (spP K S_seat) := ok_law_seat T G_law_both G_law_spread
  have G_law_place : Gd P w K mg base 4 "_law_place" ["_law_seat_here"] (spP K S_place) := ok_law_place T G_law_formed
  have G_law_bar : Gd P w K mg base 1 "_law_bar" ["_law_curve_here"] (spP K S_bar) := ok_law_bar T 
  have G_law_ring : Gd P w K mg base 1 "_law_ring" ["_law_curve_here"] (spP K S_ring) := ok_law_ring T 
  have G_law_form : Gd P w K mg base 2 "_law_form" ["_law_curve_here"] (spP K S_form) := ok_law_form T G_law_bar G_law_common
  have G_law_side : Gd P w K mg base 3 "_law_side" ["_law_curve_here", "_law_seat_here"] (spP K S_side) := ok_law_side T G_law_ring G_law_sign_one G_law_bar
  have G_law_chord : Gd P w K mg base 2 "_law_chord" ["_law_bar_here", "_law_ring_here"] (spL K S_chord) := ok_law_chord T G_law_common
  have G_law_meet : Gd P w K mg base 3 "_law_meet" ["_law_one", "_law_two"] (spL K S_meet) := ok_law_meet T G_law_ring G_law_bar G_law_chord
  have G_law_small : Gd P w K mg base 3 "_law_small" ["_law_well_here"] (spW K S_small) := ok_law_small T G_law_lean G_law_draw
  have G_law_point : Gd P w K mg base 4 "_law_point" ["_law_well_here"] (spW K S_point) := ok_law_point T G_law_small
  have G_law_size : Gd P w K mg base 3 "_law_size" ["_law_well_here"] (spW K S_size) := ok_law_size T G_law_lean G_law_draw G_law_pick
  have G_law_disc : Gd P w K mg base 5 "_law_disc" ["_law_well_here"] (spW K S_disc) := ok_law_disc T G_law_point G_law_size
  have G_law_line : Gd P w K mg base 4 "_law_line" ["_law_well_here"] (spW K S_line) := ok_law_line T G_law_pick G_law_mul G_law_small G_law_draw
  have G_law_beside : Gd P w K mg base 4 "_law_beside" ["_law_well_here", "_law_ring_here"] (spW K S_beside) := ok_law_beside T G_law_draw G_law_pick G_law_add G_law_neg G_law_mul G_law_is_square G_law_root
  have G_law_through : Gd P w K mg base 5 "_law_through" ["_law_well_here", "_law_some"] (spWL K S_through) := ok_law_through T G_law_point G_law_add G_law_meet G_law_draw G_law_mul G_law_line G_law_neg G_law_lean
  have G_law_curve : Gd P w K mg base 6 "_law_curve" ["_law_well_here", "_law_some"] (spWL K S_curve) := ok_law_curve T G_law_draw G_law_beside G_law_through G_law_disc G_law_line G_law_pick
  have G_law_seat_drawn : Gd P w K mg base 3 "_law_seat_drawn" ["_law_well_here"] (spW K S_seat_drawn) := ok_law_seat_drawn T G_law_pick G_law_draw
  have G_law_right : GdG P w K mg base 8 "_law_right" ["_law_well_here"] (spW K S_right) := ok_law_right T G_law_disc G_law_line G_law_curve G_law_seat_drawn G_law_seat G_law_form G_law_meet G_law_place G_law_point Gis_place Gsign_at G_law_side G_law_neg hgood
  have Glaw : GdG P w K mg base 9 "law" ["_law_script"] (spLaw K) := oklaw T G_law_right G_law_well
  exact Glaw
theorem law_ok {P : Program} {w : World} {K : PySem.W.Frag} {h : Heap} {mg : Str → Option Value} {f : Addr} (X : K.In h) (G : h.Ns mainGlobals mg) (hfa : mg ("law" : Str) = some (.ref f)) (c : He.SaysX faL fnL [] [] exL w h K) :
    ∃ fd : FuncData, (∀ (s : Shared) (v : Value), BindsTo s fd ⟨[v], []⟩ [("_law_script", v)]) ∧ ∀ base : Heap, K.In base → base.Ns mainGlobals mg → FnG P w K mg base 9 f fd ["_law_script"] (spLaw K) := by
  have T : Tx K mg := tx_of X G c
  have D : Dfn K mg "law" slaw := T.dfn 57 rfl
  obtain ⟨fd, F⟩ := D.fn
  cases hfa.symm.trans D.gl
  obtain ⟨o, lk, od⟩ := FunD.at_ F
  have b := FunD.bindsA (ps := ["_law_script"]) F fun _ _ _ _ _ _ us hl => match us, hl with | [_], _ => rfl
  refine ⟨fd, fun s v => b s [v] rfl, fun base _ _ => ?_⟩
  have G := ok_all (P := P) (w := w) (base := base) T good_all
  obtain ⟨fd2, F2, _, _, _, o2, lk2, od2⟩ := G.ok
  cases lk.symm.trans lk2
  cases od.symm.trans od2
  exact F2
end Pl
open PySem PySem.W PySem.Calls PyProof.Rows
theorem PySem.Challenge.cw_planehall_k08_whole_sides_of_places_holds : PySem.Challenge.rw_planehall_k08_whole_sides_of_places.Holds := by
  w_on; o_law
  refine HandSHeadRun.head_imp (r := OpenLaw.row PySem.Challenge.rw_planehall_k08_whole_sides_of_places) (q := view (OpenLaw.row PySem.Challenge.rw_planehall_k08_whole_sides_of_places).prog [0, 72]) (H := Pl.hk) (ob := Pl.ob) (M := 6000) (loose := Pl.names) (d := HandSHeadRun.topDef (OpenLaw.row PySem.Challenge.rw_planehall_k08_whole_sides_of_places).prog 72) (kwd := [])
    Pl.ob_eq Pl.run (by kernel_rfl) (by kernel_rfl) (by kernel_rfl) (by rfl) (by first | assumption | decide +kernel) (by decide +kernel) ⟨rfl, rfl, rfl, rfl, rfl, by decide +kernel⟩ ?hw ?hc
  case hw => w_witness2
  case hc =>
    refine Pl.walkG (l := PySem.Challenge.rw_planehall_k08_whole_sides_of_places) (n := 63) (k := 9) (x := "_law_script") rfl (by decide) (by kernel_rfl) ⟨rfl, by decide, by decide⟩ ?told
    intro w mg fa h Y G hmg0
    obtain ⟨K, KX, c⟩ := Y
    have at_ : mg ("law" : PySem.Str) = some (.ref fa) := by
      have e : (HandSHeadRun.topDef (OpenLaw.row PySem.Challenge.rw_planehall_k08_whole_sides_of_places).prog 72).name = ("law" : PySem.Str) := by kernel_rfl
      rw [← e]
      exact hmg0
    obtain ⟨fd, hb, hF⟩ := Pl.law_ok (P := (PySem.Challenge.rw_planehall_k08_whole_sides_of_places).prog) (w := w) KX G at_ c
    exact ⟨K, fd, Pl.spLaw K, KX, hb, fun H a ns hl _ hS => ⟨a, ns, rfl, hS, fun _ => rfl⟩, hF⟩
end
