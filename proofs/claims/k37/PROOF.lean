import PyProof.Rows.All
import Wide.All
import OpenK.AllK
import Wide.FinOn
import HandS.ForMost
import HandS.Zip
import HandS.Rev
import HandS.TupAny
import HandS.TupMul
import HandS.Conv
import HandS.IsInst
import HandS.Gcd
import HandS.Style
import HandS.Flow
import HandS.Defaults
import KE.GoesEnum
import KE.KStateDown
import HandS.Base
import HandS.Call
import HandS.Ends
import HandS.More
import HandS.Words
import HandS.WordsExc
import HandS.Head0
import HandS.Head1
import HandS.Head2
import HandS.Head3
import HandS.HeadEnd
import HandS.HeadHook1
import HandS.HeadHook2
import HandS.HeadHook3
import HandS.HeadHook4
import PySem.Challenge.RW_pulledrooms_k37_whole_walks_that_go_alik
set_option Elab.async false
set_option linter.all false
set_option maxRecDepth 100000
namespace PF
open PySem PySem.Spec PyProof.Rows L2
def topS (i : Nat) : Stmt := PySem.Challenge.pw_pulledrooms_k37_whole_walks_that_go_alik.main.body.getD i (.Pass ⟨0, 0, 0, 0⟩)
def s_init : Stmt := L2.inClass (topS 23) 0
end PF
set_option maxHeartbeats 4000000
namespace Hd
open PySem PySem.Spec PyProof.Rows L2 PF
/-! ### the head: facts by names -/
def dd (q : Str × Nat) : He.DefD := ⟨(q.1, none), q.1, q.1, defArgs (topS q.2), defBody (topS q.2), defScope (topS q.2), [], []⟩
def dInit : He.DefD := ⟨("House", some "__init__"), "__init__", "House.__init__", defArgs s_init, defBody s_init, defScope s_init, [], []⟩
def defs : List (Str × Nat) := ([("is_number", 12), ("is_below", 13), ("is_door", 20), ("are_numbers", 14), ("are_doors", 21), ("need_house", 24), ("is_pass", 25), ("gate_of", 26), ("are_steps", 28), ("is_walk_of", 29), ("need_walk", 30), ("end_for", 31)] : List (Str × Nat)) ++ ([("need_home", 32), ("join_of", 33), ("back_of", 34), ("standing_in", 35), ("reverses", 58), ("is_multiple", 59), ("carry", 60), ("cancel", 61), ("turns_back", 62), ("spots_of", 63), ("times_to_shorten", 64), ("times_to_fit", 65)] : List (Str × Nat)) ++ ([("plain_with_moves", 66), ("plain_of", 67), ("shuts", 69), ("inner_walk", 70), ("core_with_lead", 71), ("begun_later", 72), ("solved", 15), ("ends_slopes", 76), ("row_of_pulls", 75), ("rows_joining", 77), ("gone_lead", 80), ("lead_between", 81)] : List (Str × Nat)) ++ ([("_law_blended", 84), ("_law_draw", 85), ("_law_pick", 86), ("_law_mixed", 87), ("_law_is_whole", 88), ("_law_gate", 89), ("_law_end", 94), ("_law_joined", 96), ("_law_sides", 91), ("_law_steps", 90), ("_law_pulls", 92), ("_law_back", 97)] : List (Str × Nat)) ++ ([("_law_bare", 98), ("_law_plain", 100), ("_law_is_walk", 101), ("_law_ak_closed", 104), ("_law_ak_led", 105), ("_law_ak_turns", 107), ("_law_ak_core", 106), ("_law_ak_is_lead", 111), ("_law_ak_row", 108), ("_law_ak_rows", 109), ("_law_ak_meet", 110), ("_law_ak_size", 102)] : List (Str × Nat)) ++ ([("_law_strolled", 93), ("_law_ak_lead", 112), ("_law_k37_bent", 115), ("_law_way", 95), ("_law_homing", 99), ("_law_ak_round", 113), ("_law_ak_home", 114), ("_law_ak_doors", 103), ("joined_rooms", 22), ("_law_k37_other", 116), ("_law_begun", 83), ("law", 117)] : List (Str × Nat))
def fn : List He.DefD := dInit :: defs.map dd
def fa0 : List He.Fa := [.glo "House", .cls "House", .noat "House" "rooms", .noat "House" "doors", .mkr "House", .int "MOST_ROOMS" 12, .int "MOST_DOORS" 20, .int "GREATEST" 999, .int "MOST_DOORS_HERE" 4, .free "abs", .free "all", .free "bool", .free "enumerate", .free "int", .free "isinstance", .free "len", .free "list", .free "range", .free "reversed", .free "tuple", .free "zip"]
def fa : List He.Fa := fa0 ++ defs.map fun q => .glo q.1
def ex (K : PySem.W.Frag) : Bool := (decide (PySem.W.findIn K (.ref (He.ga K "House")) "__class__" = some (some (.builtin "object.__class__"))) && decide (PySem.W.specialIn K (.builtin "object.__class__") "__get__" = some (some (.builtin "getset_descriptor.__get__")))) && ((decide (PySem.W.takesIn K (.builtin "object.__class__") = some true) && decide (PySem.W.mroIn K (He.ga K "House") (.type "object") = some true)) && (decide (PySem.W.kitOne K (.ref (He.ga K "House")) (.ref (He.ga K "House")) = some true) && decide (PySem.W.nsIn K mainGlobals "gcd" = some (some (.builtin "math.gcd")))))
abbrev RW : PySem.W.OpenLaw := PySem.Challenge.rw_pulledrooms_k37_whole_walks_that_go_alik
abbrev R : PySem.W.OpenRow := PySem.W.OpenLaw.row RW
/-! objects by names: the module's names, a class's names, what defs are made of -/
def pick {α : Type} (g : Addr → Option Obj) : List Addr → PySem.W.Frag → (PySem.W.Frag → α) → α
  | [], K, k => k K
  | a :: r, K, k => HandSHeadRun.frNat a fun a => match g a with
    | some o => pick g r ((a, o) :: K) k
    | none => pick g r K k
def OkK (g : Addr → Option Obj) (K : PySem.W.Frag) : Prop := ∀ q, q ∈ K → g q.1 = some q.2
theorem pick_ok {α : Type} {g : Addr → Option Obj} {k : PySem.W.Frag → α} : ∀ {as : List Addr} {K : PySem.W.Frag}, OkK g K → ∃ K', OkK g K' ∧ pick g as K k = k K'
  | [], K, h => ⟨K, h, rfl⟩
  | a :: r, K, h => by
    have e : pick g (a :: r) K k = HandSHeadRun.frNat a fun a => match g a with
      | some o => pick g r ((a, o) :: K) k
      | none => pick g r K k := rfl
    rw [e, HandSHeadRun.frNat_eq]
    cases q : g a with
    | none => exact pick_ok h
    | some o =>
      have hK : OkK g ((a, o) :: K) := fun z hz => by
        rcases List.mem_cons.mp hz with hz | hz
        · rw [hz]
          exact q
        · exact h z hz
      exact pick_ok hK
def refs1 (o : Obj) : List Addr := match o.data with
  | .func fd => He.refV fd.code
  | .cls cd => [cd.ns]
  | _ => []
def refsK (K : PySem.W.Frag) : List Addr := K.flatMap fun q => refs1 q.2
def obG {α : Type} (g : Addr → Option Obj) (F : PySem.W.Frag → α) : α :=
  pick g [mainGlobals] [] fun K0 => pick g (He.ga K0 "House" :: defs.map fun q => He.ga K0 q.1) K0 fun K1 => pick g (refsK K1) K1 fun K2 => pick g [He.ma K2 (He.ga K0 "House") "__init__"] K2 fun K3 => pick g (refsK (K3.take 1)) K3 fun K4 => F (K0 ++ K4)
theorem obG_ok {α : Type} {g : Addr → Option Obj} {F : PySem.W.Frag → α} : ∃ K, OkK g K ∧ obG g F = F K := by
  unfold obG
  obtain ⟨K0, h0, e0⟩ := pick_ok (g := g) (as := [mainGlobals]) (K := []) (k := fun K0 => pick g (He.ga K0 "House" :: defs.map fun q => He.ga K0 q.1) K0 fun K1 => pick g (refsK K1) K1 fun K2 => pick g [He.ma K2 (He.ga K0 "House") "__init__"] K2 fun K3 => pick g (refsK (K3.take 1)) K3 fun K4 => F (K0 ++ K4)) (fun _ h => nomatch h)
  rw [e0]
  obtain ⟨K1, h1, e1⟩ := pick_ok (g := g) (as := He.ga K0 "House" :: defs.map fun q => He.ga K0 q.1) (K := K0) (k := fun K1 => pick g (refsK K1) K1 fun K2 => pick g [He.ma K2 (He.ga K0 "House") "__init__"] K2 fun K3 => pick g (refsK (K3.take 1)) K3 fun K4 => F (K0 ++ K4)) h0
  rw [e1]
  obtain ⟨K2, h2, e2⟩ := pick_ok (g := g) (as := refsK K1) (K := K1) (k := fun K2 => pick g [He.ma K2 (He.ga K0 "House") "__init__"] K2 fun K3 => pick g (refsK (K3.take 1)) K3 fun K4 => F (K0 ++ K4)) h1
  rw [e2]
  obtain ⟨K3, h3, e3⟩ := pick_ok (g := g) (as := [He.ma K2 (He.ga K0 "House") "__init__"]) (K := K2) (k := fun K3 => pick g (refsK (K3.take 1)) K3 fun K4 => F (K0 ++ K4)) h2
  rw [e3]
  obtain ⟨K4, h4, e4⟩ := pick_ok (g := g) (as := refsK (K3.take 1)) (K := K3) (k := fun K4 => F (K0 ++ K4)) h3
  rw [e4]
  exact ⟨K0 ++ K4, fun q hq => (List.mem_append.mp hq).elim (h0 q) (h4 q), rfl⟩
abbrev Al : Type := He.AlD × Bool
def lookK (K : PySem.W.Frag) : Al := (He.obsD fa fn K, ex K)
structure Says (K : PySem.W.Frag) : Prop where
  d : He.SaysD fa fn K
  more : ex K = true
def hk : PySem.W.Hook where
  α := Al
  obs := fun s => obG s.heap.get? lookK
  val := fun _ => (He.valD fn, true)
  says := fun _ h => ∃ K : PySem.W.Frag, K.In h ∧ Says K
  of := fun w s e => by
    obtain ⟨K, h1, h2⟩ := obG_ok (g := s.heap.get?) (F := lookK)
    have e2 : lookK K = (He.valD fn, true) := h2.symm.trans e
    exact ⟨K, fun a o q => h1 _ (He.lookup_mem q), congrArg (fun z : Al => z.1) e2, congrArg (fun z : Al => z.2) e2⟩
  keeps := fun _ _ _ ⟨K, hK, c⟩ k => ⟨K, PySem.W.Frag.In.keeps hK k, c⟩
def ob (s : PySem.W.SharedT) : Al := obG (HandSHeadRun.getT s) lookK
theorem ob_eq (s : PySem.W.SharedT) : ob s = hk.obs s.abs := by
  have e : HandSHeadRun.getT s = s.abs.heap.get? := funext fun a => HandSHeadRun.getT_eq s a
  unfold ob
  rw [e]
  rfl
def vw : List Nat := [0, 117]
def lo : List PySem.Str := (["PullError", "Apart", "BadDoors", "BadHouse", "BadRooms", "BadState", "BadWalk", "NotHome", "TooMany", "is_number", "is_below", "are_numbers"] : List PySem.Str) ++ (["solved", "MOST_ROOMS", "MOST_DOORS", "GREATEST", "is_door", "are_doors", "joined_rooms", "House", "need_house", "is_pass", "gate_of", "are_steps"] : List PySem.Str) ++ (["is_walk_of", "need_walk", "end_for", "need_home", "join_of", "back_of", "standing_in", "bare_walk", "ways_out", "turned", "state_right", "need_state"] : List PySem.Str) ++ (["MOST_BOOKED", "rank", "times_in", "led_once", "led_down", "back_way", "door_pairs", "met_pair", "meet", "taken_in", "full_book", "need_few"] : List PySem.Str) ++ (["moved_way", "reverses", "is_multiple", "carry", "cancel", "turns_back", "spots_of", "times_to_shorten", "times_to_fit", "plain_with_moves", "plain_of", "shuts"] : List PySem.Str) ++ (["inner_walk", "core_with_lead", "begun_later", "MOST_DOORS_HERE", "row_of_pulls", "ends_slopes", "rows_joining", "way_between", "kept_lead", "gone_lead", "lead_between", "_law_begun"] : List PySem.Str) ++ (["_law_blended", "_law_draw", "_law_pick", "_law_mixed", "_law_is_whole", "_law_gate", "_law_steps", "_law_sides", "_law_pulls", "_law_strolled", "_law_end", "_law_way"] : List PySem.Str) ++ (["_law_joined", "_law_back", "_law_bare", "_law_homing", "_law_plain", "_law_is_walk", "_law_ak_size", "_law_ak_doors", "_law_ak_closed", "_law_ak_led", "_law_ak_core", "_law_ak_turns"] : List PySem.Str) ++ (["_law_ak_row", "_law_ak_rows", "_law_ak_meet", "_law_ak_is_lead", "_law_ak_lead", "_law_ak_round", "_law_ak_home", "_law_k37_bent", "_law_k37_other"] : List PySem.Str)
set_option maxHeartbeats 0 in
theorem run (w : World) : HandSHeadRun.RunEqI R (PySem.W.view R.prog vw) hk ob 6000 lo w := by
  unfold HandSHeadRun.RunEqI
  kernel_rfl
end Hd

namespace PR
abbrev Pass := Int × Int
abbrev Door := Int × Int × Int × Int
def gate (ds : List Door) (e : Pass) : Door :=
  if e.2 = 0 then ds.getD e.1.toNat (0, 1, 0, 1) else
    ((ds.getD e.1.toNat (0, 1, 0, 1)).2.2.1, (ds.getD e.1.toNat (0, 1, 0, 1)).2.2.2, (ds.getD e.1.toNat (0, 1, 0, 1)).1, (ds.getD e.1.toNat (0, 1, 0, 1)).2.1)
def src (ds : List Door) (e : Pass) : Int := (gate ds e).1
def lv (ds : List Door) (e : Pass) : Int := (gate ds e).2.1
def dst (ds : List Door) (e : Pass) : Int := (gate ds e).2.2.1
def ar (ds : List Door) (e : Pass) : Int := (gate ds e).2.2.2
def inv (e : Pass) : Pass := (e.1, 1 - e.2)
def Sd (e : Pass) : Prop := e.2 = 0 ∨ e.2 = 1
def NZ (ds : List Door) : Prop := ∀ d, d ∈ ds → d.2.1 ≠ 0 ∧ d.2.2.2 ≠ 0
theorem inv_sd {e : Pass} (h : Sd e) : Sd (inv e) := by
  unfold Sd inv at *
  simp only
  omega
theorem inv_inv {e : Pass} : inv (inv e) = e := by
  unfold inv
  ext <;> simp <;> omega
theorem inv_ne {e : Pass} (h : Sd e) : inv e ≠ e := by
  intro q
  have := congrArg Prod.snd q
  unfold Sd at h
  simp only [inv] at this
  omega
theorem getD_nz {ds : List Door} (h : NZ ds) (i : Nat) : (ds.getD i (0, 1, 0, 1)).2.1 ≠ 0 ∧ (ds.getD i (0, 1, 0, 1)).2.2.2 ≠ 0 := by
  rw [List.getD_eq_getElem?_getD]
  cases e : ds[i]? with
  | none => exact ⟨by decide, by decide⟩
  | some d => exact h d (List.mem_of_getElem? e)
theorem lv_ne {ds : List Door} (h : NZ ds) (e : Pass) : lv ds e ≠ 0 := by
  have q := getD_nz h e.1.toNat
  unfold lv gate
  split
  · exact q.1
  · exact q.2
theorem ar_ne {ds : List Door} (h : NZ ds) (e : Pass) : ar ds e ≠ 0 := by
  have q := getD_nz h e.1.toNat
  unfold ar gate
  split
  · exact q.2
  · exact q.1
theorem gate_inv {ds : List Door} {e : Pass} (h : Sd e) : gate ds (inv e) = ((gate ds e).2.2.1, (gate ds e).2.2.2, (gate ds e).1, (gate ds e).2.1) := by
  unfold gate inv
  rcases h with h | h
  · rw [h]
    rw [if_neg (by simp), if_pos rfl]
  · rw [h]
    rw [if_pos (by simp), if_neg (by simp)]
theorem lv_inv {ds : List Door} {e : Pass} (h : Sd e) : lv ds (inv e) = ar ds e := by
  unfold lv ar
  rw [gate_inv h]
theorem ar_inv {ds : List Door} {e : Pass} (h : Sd e) : ar ds (inv e) = lv ds e := by
  unfold lv ar
  rw [gate_inv h]
theorem src_inv {ds : List Door} {e : Pass} (h : Sd e) : src ds (inv e) = dst ds e := by
  unfold src dst
  rw [gate_inv h]
theorem dst_inv {ds : List Door} {e : Pass} (h : Sd e) : dst ds (inv e) = src ds e := by
  unfold src dst
  rw [gate_inv h]

/-! ### states: passes with the pulls ahead of each, the last one first, and the pulls behind -/
abbrev Stk := List (Int × Pass)
abbrev S := Stk × Int
def top (st : Stk) : Option Pass := st.head?.map (·.2)
/-- pass e -/
def pas (ds : List Door) (s : S) (e : Pass) : S :=
  match s with
  | ((p, f) :: st, u) => if f = inv e ∧ u % lv ds e = 0 then (st, p + u / lv ds e * ar ds e) else ((u % lv ds e, e) :: (p, f) :: st, u / lv ds e * ar ds e)
  | ([], u) => ([(u % lv ds e, e)], u / lv ds e * ar ds e)
/-- plain stacks -/
def Pl (ds : List Door) : Stk → Prop
  | [] => True
  | (p, e) :: st => Sd e ∧ (0 ≤ p ∧ p < (lv ds e).natAbs) ∧ (∀ q, st.head? = some q → q.2 = inv e → p ≠ 0) ∧ Pl ds st
theorem emod_of_range {p b : Int} (h : 0 ≤ p ∧ p < b.natAbs) : p % b = p := by
  have e : p % b = p % (b.natAbs : Int) := by
    rcases Int.natAbs_eq b with q | q
    · rw [← q]
    · conv => lhs; rw [q, Int.emod_neg]
  rw [e]
  exact Int.emod_eq_of_lt h.1 h.2
theorem emod_rng {p b : Int} (h : b ≠ 0) : 0 ≤ p % b ∧ p % b < b.natAbs := by
  refine ⟨Int.emod_nonneg p h, ?_⟩
  have := Int.emod_lt p h
  omega
theorem mul_div_add {p b k : Int} (h : b ≠ 0) : (p + b * k) / b = p / b + k := Int.add_mul_ediv_left p k h
theorem mul_mod_add {p b k : Int} : (p + b * k) % b = p % b := Int.add_mul_emod_self_left p b k
theorem pas_pl {ds : List Door} {st : Stk} {u : Int} {e : Pass} (hz : NZ ds) (he : Sd e) (h : Pl ds st) : Pl ds (pas ds (st, u) e).1 := by
  cases st with
  | nil => exact ⟨he, emod_rng (lv_ne hz e), fun q z => (nomatch z), trivial⟩
  | cons x st =>
    obtain ⟨p, f⟩ := x
    unfold pas
    simp only
    split
    · exact h.2.2.2
    · rename_i hn
      refine ⟨he, emod_rng (lv_ne hz e), fun q z z2 z3 => ?_, h⟩
      cases z
      exact hn ⟨z2, z3⟩
theorem pas_carry {ds : List Door} {st : Stk} {u q : Int} {e : Pass} (hz : NZ ds) : pas ds (st, u + lv ds e * q) e = ((pas ds (st, u) e).1, (pas ds (st, u) e).2 + ar ds e * q) := by
  have h := lv_ne hz e
  have e1 : (u / lv ds e + q) * ar ds e = u / lv ds e * ar ds e + ar ds e * q := by rw [Int.add_mul, Int.mul_comm q]
  cases st with
  | nil =>
    unfold pas
    simp only
    rw [mul_div_add h, mul_mod_add, e1]
  | cons x st =>
    obtain ⟨p, f⟩ := x
    unfold pas
    simp only
    rw [mul_div_add h, mul_mod_add, e1]
    split
    · simp only [Int.add_assoc]
    · rfl
/-- a pass and its back -/
theorem pas_inv {ds : List Door} {st : Stk} {u : Int} {e : Pass} (hz : NZ ds) (he : Sd e) (h : Pl ds st) : pas ds (pas ds (st, u) e) (inv e) = (st, u) := by
  have hl := lv_ne hz e
  have ha := ar_ne hz e
  have li := lv_inv (ds := ds) he
  have ai := ar_inv (ds := ds) he
  have push : ∀ r : Int, pas ds ((u % lv ds e, e) :: st, u / lv ds e * ar ds e) (inv e) = (st, u) := fun r => by
    unfold pas
    simp only
    rw [li, ai, inv_inv, if_pos ⟨rfl, Int.mul_emod_left _ _⟩, Int.mul_ediv_cancel _ ha]
    congr 1
    have := Int.emod_add_mul_ediv u (lv ds e)
    rw [Int.mul_comm] at this
    exact this
  cases st with
  | nil => exact push 0
  | cons x st =>
    obtain ⟨p, f⟩ := x
    by_cases hc : f = inv e ∧ u % lv ds e = 0
    · have e1 : pas ds ((p, f) :: st, u) e = (st, p + u / lv ds e * ar ds e) := by
        unfold pas
        simp only
        rw [if_pos hc]
      rw [e1]
      obtain ⟨rfl, hm⟩ := hc
      obtain ⟨_, hp, hn, _⟩ := h
      rw [li] at hp
      have em : (p + u / lv ds e * ar ds e) % ar ds e = p := by
        rw [Int.mul_comm, mul_mod_add]
        exact emod_of_range hp
      have ed : (p + u / lv ds e * ar ds e) / ar ds e = u / lv ds e := by
        rw [Int.mul_comm, mul_div_add ha]
        have : p / ar ds e = 0 := by
          have q := Int.emod_add_mul_ediv p (ar ds e)
          rw [emod_of_range hp] at q
          have q2 : ar ds e * (p / ar ds e) = 0 := by omega
          rcases Int.mul_eq_zero.mp q2 with z | z
          · exact absurd z ha
          · exact z
        omega
      have eu : u / lv ds e * lv ds e = u := Int.ediv_mul_cancel (Int.dvd_of_emod_eq_zero hm)
      cases st with
      | nil =>
        unfold pas
        simp only
        rw [li, ai, em, ed, eu]
      | cons y st =>
        obtain ⟨p2, f2⟩ := y
        unfold pas
        simp only
        rw [li, ai, em, ed, eu, inv_inv, if_neg]
        rintro ⟨z1, z2⟩
        subst z1
        have := hn (p2, f2) rfl (inv_inv).symm
        exact this z2
    · have e1 : pas ds ((p, f) :: st, u) e = ((u % lv ds e, e) :: (p, f) :: st, u / lv ds e * ar ds e) := by
        unfold pas
        simp only
        rw [if_neg hc]
      rw [e1]
      exact push 0

/-! ### words -/
inductive G where
  | x (i : Int)
  | e (p : Pass)
def G.inv : G → G
  | x i => .x (-i)
  | e p => .e (PR.inv p)
def G.ok : G → Prop
  | x _ => True
  | e p => Sd p
def winv (w : List G) : List G := (w.map G.inv).reverse
def ap (ds : List Door) (s : S) : G → S
  | .x i => (s.1, s.2 + i)
  | .e p => pas ds s p
def act (ds : List Door) (w : List G) (s : S) : S := w.foldl (ap ds) s
def Ok (w : List G) : Prop := ∀ g, g ∈ w → g.ok
theorem Ok.app {w v : List G} (a : Ok w) (b : Ok v) : Ok (w ++ v) := fun g h => by
  rcases List.mem_append.mp h with h | h
  · exact a g h
  · exact b g h
theorem Ok.left {w v : List G} (a : Ok (w ++ v)) : Ok w := fun g h => a g (List.mem_append.mpr (.inl h))
theorem Ok.right {w v : List G} (a : Ok (w ++ v)) : Ok v := fun g h => a g (List.mem_append.mpr (.inr h))
theorem Ok.nil : Ok [] := fun _ h => nomatch h
theorem Ok.cons {g : G} {w : List G} (a : g.ok) (b : Ok w) : Ok (g :: w) := fun k h => by
  rcases List.mem_cons.mp h with h | h
  · rw [h]
    exact a
  · exact b k h
theorem ok_x {i : Int} : Ok [.x i] := fun g h => by
  rw [List.mem_singleton] at h
  subst h
  trivial
theorem ok_e {p : Pass} (h : Sd p) : Ok [.e p] := fun g k => by
  rw [List.mem_singleton] at k
  subst k
  exact h
theorem Ok.winv {w : List G} (a : Ok w) : Ok (winv w) := fun g h => by
  unfold PR.winv at h
  rw [List.mem_reverse, List.mem_map] at h
  obtain ⟨k, hk, rfl⟩ := h
  have := a k hk
  cases k with
  | x i => trivial
  | e p => exact inv_sd this
theorem act_app (ds : List Door) (w v : List G) (s : S) : act ds (w ++ v) s = act ds v (act ds w s) := List.foldl_append
theorem act_cons (ds : List Door) (g : G) (v : List G) (s : S) : act ds (g :: v) s = act ds v (ap ds s g) := rfl
theorem ap_pl {ds : List Door} {s : S} {g : G} (hz : NZ ds) (hg : g.ok) (h : Pl ds s.1) : Pl ds (ap ds s g).1 := by
  cases g with
  | x i => exact h
  | e p => exact pas_pl (st := s.1) (u := s.2) hz hg h
theorem act_pl {ds : List Door} (hz : NZ ds) : ∀ {w : List G} {s : S}, Ok w → Pl ds s.1 → Pl ds (act ds w s).1
  | [], _, _, h => h
  | g :: w, s, a, h => act_pl (w := w) hz (fun k hk => a k (List.mem_cons_of_mem _ hk)) (ap_pl hz (a g List.mem_cons_self) h)
/-- two words that do the same -/
def Eqv (ds : List Door) (w v : List G) : Prop := ∀ s : S, Pl ds s.1 → act ds w s = act ds v s
section
variable {ds : List Door} {w v w' v' : List G}
theorem Eqv.rfl : Eqv ds w w := fun _ _ => Eq.refl _
theorem Eqv.of (h : w = v) : Eqv ds w v := by
  subst h
  exact .rfl
theorem Eqv.symm (h : Eqv ds w v) : Eqv ds v w := fun s hs => (h s hs).symm
theorem Eqv.trans {u : List G} (h : Eqv ds w v) (k : Eqv ds v u) : Eqv ds w u := fun s hs => (h s hs).trans (k s hs)
theorem Eqv.app (hz : NZ ds) (o : Ok w) (h : Eqv ds w w') (k : Eqv ds v v') : Eqv ds (w ++ v) (w' ++ v') := fun s hs => by
  rw [act_app, act_app, h s hs, k _]
  rw [← h s hs]
  exact act_pl hz o hs
theorem Eqv.pre (hz : NZ ds) (o : Ok w) (k : Eqv ds v v') : Eqv ds (w ++ v) (w ++ v') := Eqv.app hz o .rfl k
theorem Eqv.post (hz : NZ ds) (h : Eqv ds w w') : Eqv ds (w ++ v) (w' ++ v) := fun s hs => by
  rw [act_app, act_app, h s hs]
theorem eqv_x0 : Eqv ds [.x 0] [] := fun s _ => by
  show (s.1, s.2 + 0) = s
  rw [Int.add_zero]
theorem eqv_xx {a b : Int} : Eqv ds [.x a, .x b] [.x (a + b)] := fun s _ => by
  show (s.1, s.2 + a + b) = (s.1, s.2 + (a + b))
  rw [Int.add_assoc]
theorem eqv_carry (hz : NZ ds) {p : Pass} {q : Int} : Eqv ds [.x (lv ds p * q), .e p] [.e p, .x (ar ds p * q)] := fun s _ => pas_carry (st := s.1) (u := s.2) hz
theorem eqv_inv (hz : NZ ds) {p : Pass} (hp : Sd p) : Eqv ds [.e p, .e (inv p)] [] := fun s hs => pas_inv (st := s.1) (u := s.2) hz hp hs
theorem eqv_g (hz : NZ ds) {g : G} (hg : g.ok) : Eqv ds [g, g.inv] [] := by
  cases g with
  | x i =>
    refine eqv_xx.trans ?_
    rw [Int.add_right_neg]
    exact eqv_x0
  | e p => exact eqv_inv hz hg
theorem G.inv_inv {g : G} : g.inv.inv = g := by
  cases g with
  | x i =>
    show G.x (- - i) = .x i
    rw [Int.neg_neg]
  | e p =>
    show G.e (PR.inv (PR.inv p)) = .e p
    rw [PR.inv_inv]
theorem winv_winv : winv (winv w) = w := by
  unfold winv
  rw [List.map_reverse, List.reverse_reverse, List.map_map]
  conv => rhs; rw [← List.map_id w]
  congr 1
  funext g
  exact G.inv_inv
theorem winv_app : winv (w ++ v) = winv v ++ winv w := by
  unfold winv
  rw [List.map_append, List.reverse_append]
theorem eqv_winv (hz : NZ ds) : ∀ {w : List G}, Ok w → Eqv ds (w ++ winv w) []
  | [], _ => .rfl
  | g :: w, o => by
    have og : Ok [g] := .cons (o g List.mem_cons_self) .nil
    have ow : Ok w := fun k hk => o k (List.mem_cons_of_mem _ hk)
    have e : (g :: w) ++ winv (g :: w) = [g] ++ ((w ++ winv w) ++ [g.inv]) := by
      unfold winv
      simp
    rw [e]
    refine (Eqv.pre hz og (Eqv.post hz (eqv_winv hz ow))).trans ?_
    exact eqv_g hz (o g List.mem_cons_self)
theorem eqv_winvL (hz : NZ ds) (o : Ok w) : Eqv ds (winv w ++ w) [] := by
  have := eqv_winv hz o.winv
  rw [winv_winv] at this
  exact this
/-- the word of a state -/
def swS (st : Stk) : List G := st.reverse.flatMap fun q => [.x q.1, .e q.2]
def sw (s : S) : List G := swS s.1 ++ [.x s.2]
theorem swS_cons {p : Int} {e : Pass} {st : Stk} : swS ((p, e) :: st) = swS st ++ [.x p, .e e] := by
  unfold swS
  rw [List.reverse_cons, List.flatMap_append]
  rfl
theorem swS_ok {st : Stk} (h : Pl ds st) : Ok (swS st) := by
  induction st with
  | nil => exact .nil
  | cons q st ih =>
    obtain ⟨p, e⟩ := q
    rw [swS_cons]
    exact (ih h.2.2.2).app (.cons trivial (.cons h.1 .nil))
theorem sw_ok {s : S} (h : Pl ds s.1) : Ok (sw s) := (swS_ok h).app (.cons trivial .nil)
/-- a plain stack's word makes it -/
theorem swS_act (hz : NZ ds) {st : Stk} (h : Pl ds st) : act ds (swS st) ([], 0) = (st, 0) := by
  induction st with
  | nil => rfl
  | cons q st ih =>
    obtain ⟨p, e⟩ := q
    obtain ⟨h1, h2, h3, h4⟩ := h
    rw [swS_cons, act_app, ih h4]
    show pas ds (st, 0 + p) e = ((p, e) :: st, 0)
    rw [Int.zero_add]
    have em := emod_of_range h2
    have ed : p / lv ds e = 0 := by
      have q := Int.emod_add_mul_ediv p (lv ds e)
      rw [em] at q
      have q2 : lv ds e * (p / lv ds e) = 0 := by omega
      rcases Int.mul_eq_zero.mp q2 with z | z
      · exact absurd z (lv_ne hz e)
      · exact z
    cases st with
    | nil =>
      unfold pas
      simp only
      rw [em, ed, Int.zero_mul]
    | cons y st =>
      obtain ⟨p2, f2⟩ := y
      unfold pas
      simp only
      rw [em, ed, Int.zero_mul, if_neg]
      rintro ⟨z1, z2⟩
      exact h3 (p2, f2) rfl z1 z2
theorem sw_act (hz : NZ ds) {s : S} (h : Pl ds s.1) : act ds (sw s) ([], 0) = s := by
  unfold sw
  rw [act_app, swS_act hz h]
  show (s.1, 0 + s.2) = s
  rw [Int.zero_add]
theorem sw_ap (hz : NZ ds) {s : S} {g : G} (hg : g.ok) (h : Pl ds s.1) : Eqv ds (sw (ap ds s g)) (sw s ++ [g]) := by
  obtain ⟨st, u⟩ := s
  cases g with
  | x i =>
    show Eqv ds (swS st ++ [.x (u + i)]) ((swS st ++ [.x u]) ++ [.x i])
    rw [List.append_assoc]
    exact Eqv.pre hz (swS_ok h) eqv_xx.symm
  | e p =>
    have hl := lv_ne hz p
    have os := swS_ok h
    have push : Eqv ds (sw ((u % lv ds p, p) :: st, u / lv ds p * ar ds p)) (sw (st, u) ++ [.e p]) := by
      unfold sw
      simp only
      rw [swS_cons, List.append_assoc, List.append_assoc]
      refine Eqv.pre hz os ?_
      show Eqv ds ([.x (u % lv ds p)] ++ [.e p, .x (u / lv ds p * ar ds p)]) [.x u, .e p]
      rw [Int.mul_comm (u / lv ds p)]
      refine (Eqv.pre hz ok_x (eqv_carry hz).symm).trans ?_
      show Eqv ds ([.x (u % lv ds p), .x (lv ds p * (u / lv ds p))] ++ [.e p]) [.x u, .e p]
      refine (Eqv.post hz eqv_xx).trans ?_
      rw [Int.emod_add_mul_ediv]
      exact .rfl
    cases st with
    | nil => exact push
    | cons y st =>
      obtain ⟨p2, f⟩ := y
      by_cases hc : f = inv p ∧ u % lv ds p = 0
      · have e1 : ap ds ((p2, f) :: st, u) (.e p) = (st, p2 + u / lv ds p * ar ds p) := by
          show pas ds ((p2, f) :: st, u) p = (st, p2 + u / lv ds p * ar ds p)
          unfold pas
          simp only
          rw [if_pos hc]
        rw [e1]
        obtain ⟨rfl, hm⟩ := hc
        have eu : lv ds p * (u / lv ds p) = u := Int.mul_ediv_cancel' (Int.dvd_of_emod_eq_zero hm)
        have os2 := swS_ok h.2.2.2
        have hp : Sd p := hg
        unfold sw
        simp only
        rw [swS_cons, List.append_assoc, List.append_assoc]
        refine Eqv.pre hz os2 ?_
        show Eqv ds [.x (p2 + u / lv ds p * ar ds p)] ([.x p2, .e (inv p)] ++ [.x u, .e p])
        rw [← eu]
        refine Eqv.symm ((Eqv.pre hz (ok_x.app (ok_e (inv_sd hp))) (eqv_carry hz)).trans ?_)
        rw [eu]
        show Eqv ds ([.x p2] ++ ([.e (inv p), .e p] ++ [.x (ar ds p * (u / lv ds p))])) _
        have q := eqv_inv hz (inv_sd hp)
        rw [inv_inv] at q
        refine (Eqv.pre hz ok_x (Eqv.post hz q)).trans ?_
        show Eqv ds [.x p2, .x (ar ds p * (u / lv ds p))] _
        rw [Int.mul_comm (ar ds p)]
        exact eqv_xx
      · have e1 : ap ds ((p2, f) :: st, u) (.e p) = ((u % lv ds p, p) :: (p2, f) :: st, u / lv ds p * ar ds p) := by
          show pas ds ((p2, f) :: st, u) p = _
          unfold pas
          simp only
          rw [if_neg hc]
        rw [e1]
        exact push
theorem sw_actw (hz : NZ ds) : ∀ {w : List G} {s : S}, Ok w → Pl ds s.1 → Eqv ds (sw (act ds w s)) (sw s ++ w)
  | [], s, _, _ => by
    rw [List.append_nil]
    exact .rfl
  | g :: w, s, o, h => by
    have hg := o g List.mem_cons_self
    have ow : Ok w := fun k hk => o k (List.mem_cons_of_mem _ hk)
    refine (sw_actw (w := w) hz ow (ap_pl hz hg h)).trans ?_
    refine (Eqv.post hz (sw_ap hz hg h)).trans ?_
    rw [List.append_assoc]
    exact .rfl
abbrev s0 : S := ([], 0)
theorem nf_eqv (hz : NZ ds) (o : Ok w) : Eqv ds (sw (act ds w s0)) w := by
  refine (sw_actw (s := s0) hz o (show Pl ds [] from trivial)).trans ?_
  show Eqv ds ([.x 0] ++ w) w
  exact Eqv.post (w' := []) hz eqv_x0
theorem eqv_iff (hz : NZ ds) (o : Ok w) (o' : Ok v) : Eqv ds w v ↔ act ds w s0 = act ds v s0 := by
  refine ⟨fun h => h s0 (show Pl ds [] from trivial), fun h => ?_⟩
  have a := nf_eqv hz o
  rw [h] at a
  exact a.symm.trans (nf_eqv hz o')
end
end PR

namespace PR
/-! ### walks -/
structure Walk where
  room : Int
  pulls : List Int
  passes : List Pass
  deriving DecidableEq
def wdL : List Int → List Pass → List G
  | p :: ps, e :: es => .x p :: .e e :: wdL ps es
  | p :: _, [] => [.x p]
  | [], _ => []
def Walk.wd (w : Walk) : List G := wdL w.pulls w.passes
/-- passes one after another from a room to a room -/
def Pas (ds : List Door) (e : Pass) : Prop := (0 ≤ e.1 ∧ e.1 < (ds.length : Int)) ∧ Sd e
def Path (ds : List Door) : Int → List Pass → Int → Prop
  | r, [], r' => r = r'
  | r, e :: es, r' => Pas ds e ∧ src ds e = r ∧ Path ds (dst ds e) es r'
structure WOk (ds : List Door) (w : Walk) (r' : Int) : Prop where
  len : w.pulls.length = w.passes.length + 1
  path : Path ds w.room w.passes r'
theorem inv_pas {ds : List Door} {e : Pass} (h : Pas ds e) : Pas ds (inv e) := ⟨h.1, inv_sd h.2⟩
theorem Path.app {ds : List Door} : ∀ {r : Int} {es : List Pass} {m : Int} {fs : List Pass} {r' : Int}, Path ds r es m → Path ds m fs r' → Path ds r (es ++ fs) r'
  | _, [], _, _, _, h, k => by
    cases h
    exact k
  | _, e :: es, _, _, _, h, k => ⟨h.1, h.2.1, Path.app h.2.2 k⟩
theorem Path.split {ds : List Door} : ∀ {r : Int} {es : List Pass} {fs : List Pass} {r' : Int}, Path ds r (es ++ fs) r' → ∃ m, Path ds r es m ∧ Path ds m fs r'
  | r, [], _, _, h => ⟨r, rfl, h⟩
  | r, e :: es, fs, r', h => by
    obtain ⟨m, a, b⟩ := Path.split (es := es) h.2.2
    exact ⟨m, ⟨h.1, h.2.1, a⟩, b⟩
theorem Path.snoc {ds : List Door} {r : Int} {es : List Pass} {e : Pass} {m : Int} (h : Path ds r es m) (he : Pas ds e) (hs : src ds e = m) : Path ds r (es ++ [e]) (dst ds e) := h.app ⟨he, hs, rfl⟩
theorem Path.snoc_inv {ds : List Door} {r : Int} {es : List Pass} {e : Pass} {m : Int} (h : Path ds r (es ++ [e]) m) : Path ds r es (src ds e) ∧ Pas ds e ∧ m = dst ds e := by
  obtain ⟨k, a, b⟩ := h.split
  obtain ⟨b1, b2, b3⟩ := b
  rw [b2]
  exact ⟨a, b1, b3.symm⟩
theorem Path.back {ds : List Door} : ∀ {r : Int} {es : List Pass} {r' : Int}, Path ds r es r' → Path ds r' (es.reverse.map inv) r
  | _, [], _, h => by
    cases h
    rfl
  | r, e :: es, r', h => by
    rw [List.reverse_cons, List.map_append]
    refine (Path.back (es := es) h.2.2).app ⟨inv_pas h.1, src_inv h.1.2, ?_⟩
    show dst ds (inv e) = r
    rw [dst_inv h.1.2]
    exact h.2.1
theorem Path.end_eq {ds : List Door} : ∀ {r : Int} {es : List Pass} {m m' : Int}, Path ds r es m → Path ds r es m' → m = m'
  | _, [], _, _, h, k => by
    cases h
    exact k
  | _, e :: es, _, _, h, k => Path.end_eq h.2.2 k.2.2
theorem Path.mem {ds : List Door} : ∀ {r : Int} {es : List Pass} {r' : Int}, Path ds r es r' → ∀ e, e ∈ es → Pas ds e
  | _, [], _, _, _, h => nomatch h
  | _, f :: es, _, h, e, k => by
    rcases List.mem_cons.mp k with k | k
    · rw [k]
      exact h.1
    · exact Path.mem h.2.2 e k
/-! ### words of walks -/
theorem wdL_ok : ∀ {ps : List Int} {es : List Pass}, (∀ e, e ∈ es → Sd e) → Ok (wdL ps es)
  | [], _, _ => .nil
  | p :: ps, [], _ => ok_x
  | p :: ps, e :: es, h => .cons trivial (.cons (h e List.mem_cons_self) (wdL_ok fun f hf => h f (List.mem_cons_of_mem _ hf)))
theorem WOk.ok {ds : List Door} {w : Walk} {r : Int} (h : WOk ds w r) : Ok w.wd := wdL_ok fun e he => (h.path.mem e he).2
/-- joined walks -/
def joinP (a b : List Int) : List Int := a.dropLast ++ (a.getLastD 0 + b.headD 0) :: b.tail
def Walk.join (a b : Walk) : Walk := ⟨a.room, joinP a.pulls b.pulls, a.passes ++ b.passes⟩
theorem wdL_join {ds : List Door} (hz : NZ ds) : ∀ {a : List Int} {es : List Pass} {b : List Int} {fs : List Pass}, a.length = es.length + 1 → b.length = fs.length + 1 → (∀ e, e ∈ es → Sd e) →
    Eqv ds (wdL (joinP a b) (es ++ fs)) (wdL a es ++ wdL b fs)
  | [p], [], q :: b, fs, _, _, _ => by
    show Eqv ds (wdL ((p + q) :: b) fs) (.x p :: wdL (q :: b) fs)
    cases fs with
    | nil => exact eqv_xx.symm
    | cons f fs =>
      show Eqv ds ([.x (p + q)] ++ (.e f :: wdL b fs)) ([.x p, .x q] ++ (.e f :: wdL b fs))
      exact Eqv.post hz eqv_xx.symm
  | p :: p2 :: a, e :: es, b, fs, h, k, o => by
    have ih := wdL_join hz (a := p2 :: a) (es := es) (b := b) (fs := fs) (by simpa using h) k fun f hf => o f (List.mem_cons_of_mem _ hf)
    have e1 : joinP (p :: p2 :: a) b = p :: joinP (p2 :: a) b := by
      unfold joinP
      rw [List.dropLast_cons_cons, List.cons_append]
      congr 1
    rw [e1]
    show Eqv ds ([.x p, .e e] ++ wdL (joinP (p2 :: a) b) (es ++ fs)) ([.x p, .e e] ++ (wdL (p2 :: a) es ++ wdL b fs))
    exact Eqv.pre hz (ok_x.app (ok_e (o e List.mem_cons_self))) ih
  | [], es, b, fs, h, _, _ => by simp at h
  | _, [], [], fs, _, k, _ => by simp at k
  | [p], e :: es, _, _, h, _, _ => by simp at h
  | p :: p2 :: a, [], _, _, h, _, _ => by simp at h
theorem join_wd {ds : List Door} (hz : NZ ds) {a b : Walk} {m r : Int} (ha : WOk ds a m) (hb : b.pulls.length = b.passes.length + 1) : Eqv ds (a.join b).wd (a.wd ++ b.wd) :=
  wdL_join hz ha.len hb fun e he => (ha.path.mem e he).2
theorem joinP_len {a b : List Int} (ha : a ≠ []) (hb : b ≠ []) : (joinP a b).length + 1 = a.length + b.length := by
  unfold joinP
  rw [List.length_append, List.length_cons, List.length_dropLast, List.length_tail]
  have h1 := List.length_pos_iff.mpr ha
  have h2 := List.length_pos_iff.mpr hb
  omega
theorem ne_nil_of {α : Type} {a : List α} {n : Nat} (h : a.length = n + 1) : a ≠ [] := by
  rintro rfl
  simp at h
theorem join_ok {ds : List Door} {a b : Walk} {m r : Int} (ha : WOk ds a m) (hb : WOk ds b r) (hm : b.room = m) : WOk ds (a.join b) r := by
  refine ⟨?_, ?_⟩
  · have := joinP_len (ne_nil_of ha.len) (ne_nil_of hb.len)
    show (joinP a.pulls b.pulls).length = (a.passes ++ b.passes).length + 1
    rw [List.length_append]
    have h1 := ha.len
    have h2 := hb.len
    omega
  · have hp := hb.path
    rw [hm] at hp
    exact ha.path.app hp
/-- a walk backwards, from the room in which it ends -/
def Walk.bk (w : Walk) (r : Int) : Walk := ⟨r, w.pulls.reverse.map fun i => 0 - i, w.passes.reverse.map inv⟩
theorem wdL_append : ∀ {ps : List Int} {es : List Pass} {qs : List Int} {fs : List Pass}, ps.length = es.length → wdL (ps ++ qs) (es ++ fs) = wdL ps es ++ wdL qs fs
  | [], [], _, _, _ => rfl
  | p :: ps, e :: es, qs, fs, h => by
    show .x p :: .e e :: wdL (ps ++ qs) (es ++ fs) = .x p :: .e e :: (wdL ps es ++ wdL qs fs)
    rw [wdL_append (by simpa using h)]
  | [], e :: es, _, _, h => by simp at h
  | p :: ps, [], _, _, h => by simp at h
theorem wdL_back : ∀ {ps : List Int} {es : List Pass}, ps.length = es.length + 1 → wdL (ps.reverse.map fun i => 0 - i) (es.reverse.map inv) = winv (wdL ps es)
  | [p], [], _ => by
    show [G.x (0 - p)] = [G.x (-p)]
    rw [Int.zero_sub]
  | p :: p2 :: ps, e :: es, h => by
    have ih := wdL_back (ps := p2 :: ps) (es := es) (by simpa using h)
    have e1 : winv (wdL (p :: p2 :: ps) (e :: es)) = winv (wdL (p2 :: ps) es) ++ [.e (inv e), .x (-p)] := by
      show winv ([.x p, .e e] ++ wdL (p2 :: ps) es) = _
      rw [winv_app]
      rfl
    rw [e1, ← ih]
    have e2 : ((p :: p2 :: ps).reverse.map fun i => 0 - i) = ((p2 :: ps).reverse.map fun i => 0 - i) ++ [0 - p] := by
      rw [List.reverse_cons, List.map_append]
      rfl
    have e3 : ((e :: es).reverse.map inv) = (es.reverse.map inv) ++ [inv e] := by
      rw [List.reverse_cons, List.map_append]
      rfl
    rw [e2, e3]
    -- the last pulls stand apart
    have e4 : ((p2 :: ps).reverse.map fun i => 0 - i) = (((p2 :: ps).reverse.map fun i => 0 - i).dropLast) ++ [0 - p2] := by
      rw [List.reverse_cons, List.map_append]
      show _ = (List.map (fun i => 0 - i) ps.reverse ++ [0 - p2]).dropLast ++ [0 - p2]
      rw [List.dropLast_concat]
      rfl
    have hl : (((p2 :: ps).reverse.map fun i => 0 - i).dropLast).length = (es.reverse.map inv).length := by
      simp at h ⊢
      exact h
    rw [e4, List.append_assoc]
    rw [wdL_append hl]
    have e5 : wdL ([0 - p2] ++ [0 - p]) [inv e] = [.x (0 - p2), .e (inv e), .x (0 - p)] := rfl
    rw [e5]
    have e6 := wdL_append (qs := [0 - p2]) (fs := []) hl
    rw [List.append_nil] at e6
    rw [e6]
    show _ = (wdL _ _ ++ [.x (0 - p2)]) ++ _
    rw [List.append_assoc, Int.zero_sub p]
    rfl
  | [], es, h => by simp at h
  | [p], e :: es, h => by simp at h
  | p :: p2 :: ps, [], h => by simp at h
theorem bk_wd {ds : List Door} {w : Walk} {r r' : Int} (h : WOk ds w r) : (w.bk r').wd = winv w.wd := wdL_back h.len
theorem bk_ok {ds : List Door} {w : Walk} {r : Int} (h : WOk ds w r) : WOk ds (w.bk r) w.room := by
  refine ⟨?_, h.path.back⟩
  have := h.len
  show (w.pulls.reverse.map fun i => 0 - i).length = (w.passes.reverse.map inv).length + 1
  simp
  exact this
/-! ### plain forms of walks -/
def ofSt (room : Int) (s : S) : Walk := ⟨room, (s.1.map (·.1)).reverse ++ [s.2], (s.1.map (·.2)).reverse⟩
def nfW (ds : List Door) (w : Walk) : Walk := ofSt w.room (act ds w.wd s0)
theorem ofSt_wd (room : Int) (s : S) : (ofSt room s).wd = sw s := by
  obtain ⟨st, u⟩ := s
  show wdL ((st.map (·.1)).reverse ++ [u]) (st.map (·.2)).reverse = swS st ++ [.x u]
  have e := wdL_append (ps := (st.map (·.1)).reverse) (es := (st.map (·.2)).reverse) (qs := [u]) (fs := []) (by simp)
  rw [List.append_nil] at e
  rw [e]
  congr 1
  induction st with
  | nil => rfl
  | cons q st ih =>
    obtain ⟨p, f⟩ := q
    rw [List.map_cons, List.map_cons, List.reverse_cons, List.reverse_cons, wdL_append (by simp), ih (by
      have e := wdL_append (ps := (st.map (·.1)).reverse) (es := (st.map (·.2)).reverse) (qs := [u]) (fs := []) (by simp)
      rw [List.append_nil] at e
      exact e), swS_cons]
    rfl
theorem nfW_wd (ds : List Door) (w : Walk) : (nfW ds w).wd = sw (act ds w.wd s0) := ofSt_wd _ _
section
variable {ds : List Door} {w v : Walk} {r : Int}
theorem act_plain (hz : NZ ds) (o : Ok w.wd) : Pl ds (act ds w.wd s0).1 := act_pl hz o (show Pl ds [] from trivial)
theorem nfW_eqv (hz : NZ ds) (o : Ok w.wd) : Eqv ds (nfW ds w).wd w.wd := by
  rw [nfW_wd]
  exact nf_eqv hz o
theorem nfW_okw (hz : NZ ds) (o : Ok w.wd) : Ok (nfW ds w).wd := by
  rw [nfW_wd]
  exact sw_ok (act_plain hz o)
/-- walks that do the same have one plain form -/
theorem nfW_eq (h : Eqv ds w.wd v.wd) (hr : w.room = v.room) : nfW ds w = nfW ds v := by
  unfold nfW
  rw [hr, h s0 (show Pl ds [] from trivial)]
theorem eqv_of_nfW (hz : NZ ds) (o : Ok w.wd) (o' : Ok v.wd) (h : nfW ds w = nfW ds v) : Eqv ds w.wd v.wd := by
  refine (nfW_eqv hz o).symm.trans ?_
  rw [h]
  exact nfW_eqv hz o'
theorem nfW_nfW (hz : NZ ds) (o : Ok w.wd) : nfW ds (nfW ds w) = nfW ds w := nfW_eq (nfW_eqv hz o) rfl
theorem path_act (hz : NZ ds) {room : Int} : ∀ {ps : List Int} {es : List Pass} {s : S} {m r : Int}, Path ds room (s.1.map (·.2)).reverse m → Path ds m es r → ps.length = es.length + 1 → Path ds room ((act ds (wdL ps es) s).1.map (·.2)).reverse r
  | [p], [], s, m, r, h, k, _ => by
    cases k
    exact h
  | p :: ps, e :: es, s, m, r, h, k, hl => by
    obtain ⟨k1, k2, k3⟩ := k
    show Path ds room ((act ds (wdL ps es) (pas ds (s.1, s.2 + p) e)).1.map (·.2)).reverse r
    refine path_act hz (m := dst ds e) ?_ k3 (by simpa using hl)
    obtain ⟨st, u⟩ := s
    have push : ∀ q : Int, Path ds room (((q, e) :: st).map (·.2)).reverse (dst ds e) := fun q => by
      rw [List.map_cons, List.reverse_cons]
      exact h.snoc k1 k2
    cases st with
    | nil => exact push _
    | cons y st =>
      obtain ⟨q, f⟩ := y
      unfold pas
      simp only
      split
      · rename_i hc
        obtain ⟨rfl, _⟩ := hc
        have h' : Path ds room ((st.map (·.2)).reverse ++ [inv e]) m := by
          have := h
          simp only [List.map_cons, List.reverse_cons] at this
          exact this
        have := h'.snoc_inv
        have e1 := this.1
        rw [src_inv k1.2] at e1
        exact e1
      · exact push _
  | [], es, _, _, _, _, _, hl => by simp at hl
  | p :: p2 :: ps, [], _, _, _, _, _, hl => by simp at hl
theorem nfW_ok (hz : NZ ds) (h : WOk ds w r) : WOk ds (nfW ds w) r := by
  refine ⟨?_, path_act hz (s := s0) (m := w.room) rfl h.path h.len⟩
  show ((List.map (·.1) (act ds w.wd s0).1).reverse ++ [(act ds w.wd s0).2]).length = (List.map (·.2) (act ds w.wd s0).1).reverse.length + 1
  simp
/-- how many passes a word has -/
def np : List G → Nat
  | [] => 0
  | .x _ :: w => np w
  | .e _ :: w => np w + 1
theorem np_app : ∀ {a b : List G}, np (a ++ b) = np a + np b
  | [], b => by simp [np]
  | .x _ :: a, b => np_app (a := a)
  | .e _ :: a, b => by
    show np (a ++ b) + 1 = np a + 1 + np b
    rw [np_app]
    omega
theorem np_wdL : ∀ {ps : List Int} {es : List Pass}, ps.length = es.length + 1 → np (wdL ps es) = es.length
  | [p], [], _ => rfl
  | p :: ps, e :: es, h => by
    show np (wdL ps es) + 1 = es.length + 1
    rw [np_wdL (by simpa using h)]
  | [], es, h => by simp at h
  | p :: p2 :: ps, [], h => by simp at h
theorem np_swS : ∀ {st : Stk}, np (swS st) = st.length
  | [] => rfl
  | (p, e) :: st => by
    rw [swS_cons, np_app, np_swS]
    rfl
theorem np_sw {s : S} : np (sw s) = s.1.length := by
  unfold sw
  rw [np_app, np_swS]
  rfl
theorem pas_len {s : S} {e : Pass} : (pas ds s e).1.length ≤ s.1.length + 1 ∧ ((pas ds s e).1.length = s.1.length + 1 → pas ds s e = ((s.2 % lv ds e, e) :: s.1, s.2 / lv ds e * ar ds e)) := by
  obtain ⟨st, u⟩ := s
  cases st with
  | nil => exact ⟨Nat.le_refl _, fun _ => rfl⟩
  | cons y st =>
    obtain ⟨q, f⟩ := y
    unfold pas
    simp only
    split
    · refine ⟨by simp; omega, fun h => ?_⟩
      have h2 : st.length = st.length + 1 + 1 := h
      omega
    · exact ⟨Nat.le_refl _, fun _ => rfl⟩
theorem act_len : ∀ {w : List G} {s : S}, (act ds w s).1.length ≤ s.1.length + np w
  | [], _ => Nat.le_refl _
  | .x i :: w, s => act_len (w := w) (s := (s.1, s.2 + i))
  | .e p :: w, s => by
    have h1 := act_len (w := w) (s := pas ds s p)
    have h2 := (pas_len (ds := ds) (s := s) (e := p)).1
    show (act ds w (pas ds s p)).1.length ≤ s.1.length + (np w + 1)
    omega
/-- where nothing cancels the stack grows -/
theorem act_grow : ∀ {w : List G} {s : S}, (act ds w s).1.length = s.1.length + np w → ∃ new, (act ds w s).1 = new ++ s.1
  | [], _, _ => ⟨[], rfl⟩
  | .x i :: w, s, h => act_grow (w := w) (s := (s.1, s.2 + i)) h
  | .e p :: w, s, h => by
    have h1 := act_len (ds := ds) (w := w) (s := pas ds s p)
    have h2 := pas_len (ds := ds) (s := s) (e := p)
    have h3 : (act ds w (pas ds s p)).1.length = s.1.length + (np w + 1) := h
    have h4 : (pas ds s p).1.length = s.1.length + 1 := by omega
    obtain ⟨new, e⟩ := act_grow (w := w) (s := pas ds s p) (by omega)
    refine ⟨new ++ [(s.2 % lv ds p, p)], ?_⟩
    show (act ds w (pas ds s p)).1 = _
    rw [e, h2.2 h4, List.append_assoc]
    rfl
theorem nfW_len (h : w.pulls.length = w.passes.length + 1) : (nfW ds w).passes.length ≤ w.passes.length := by
  show ((act ds w.wd s0).1.map (·.2)).reverse.length ≤ _
  rw [List.length_reverse, List.length_map]
  have := act_len (ds := ds) (w := w.wd) (s := s0)
  rw [show np w.wd = w.passes.length from np_wdL h] at this
  simpa using this
end
end PR

namespace PR
/-! ### chains of carryings -/
def chain (ds : List Door) : List Pass → List Int → Int → Option Int
  | [], [d], c => some (c + d)
  | e :: es, d :: l, c => if (c + d) % lv ds e = 0 then chain ds es l ((c + d) / lv ds e * ar ds e) else none
  | _, _, _ => none
def diff (b a : List Int) : List Int := List.zipWith (fun x y => x - y) b a
theorem mul_cancel {u b : Int} (h : u % b = 0) : b * (u / b) = u := Int.mul_ediv_cancel' (Int.dvd_of_emod_eq_zero h)
theorem chain_eqv {ds : List Door} (hz : NZ ds) : ∀ {es : List Pass} {a b : List Int} {c z : Int}, a.length = es.length + 1 → b.length = es.length + 1 → (∀ e, e ∈ es → Sd e) → chain ds es (diff b a) c = some z →
    Eqv ds ([.x c] ++ wdL b es) (wdL a es ++ [.x z])
  | [], [a], [b], c, z, _, _, _, h => by
    have e : c + (b - a) = z := Option.some.inj h
    show Eqv ds [.x c, .x b] [.x a, .x z]
    refine eqv_xx.trans (Eqv.trans ?_ eqv_xx.symm)
    rw [show c + b = a + z by omega]
    exact .rfl
  | e :: es, a :: as, b :: bs, c, z, ha, hb, o, h => by
    have h' : (if (c + (b - a)) % lv ds e = 0 then chain ds es (diff bs as) ((c + (b - a)) / lv ds e * ar ds e) else none) = some z := h
    split at h'
    · rename_i hm
      have ih := chain_eqv hz (es := es) (a := as) (b := bs) (by simpa using ha) (by simpa using hb) (fun f hf => o f (List.mem_cons_of_mem _ hf)) h'
      have he := o e List.mem_cons_self
      show Eqv ds ([.x c, .x b] ++ (.e e :: wdL bs es)) (.x a :: .e e :: (wdL as es ++ [.x z]))
      refine (Eqv.post hz eqv_xx).trans ?_
      have q : c + b = a + lv ds e * ((c + (b - a)) / lv ds e) := by
        rw [mul_cancel hm]
        omega
      rw [q]
      refine (Eqv.post hz eqv_xx.symm).trans ?_
      show Eqv ds ([.x a] ++ ([.x (lv ds e * ((c + (b - a)) / lv ds e)), .e e] ++ wdL bs es)) ([.x a] ++ ([.e e] ++ (wdL as es ++ [.x z])))
      refine Eqv.pre hz ok_x ((Eqv.post hz (eqv_carry hz)).trans ?_)
      show Eqv ds ([.e e] ++ ([.x (ar ds e * ((c + (b - a)) / lv ds e))] ++ wdL bs es)) _
      rw [Int.mul_comm (ar ds e)]
      exact Eqv.pre hz (ok_e he) ih
    · cases h'
  | [], [], _, _, _, h, _, _, _ => by simp at h
  | [], _ :: _ :: _, _, _, _, h, _, _, _ => by simp at h
  | [], [_], [], _, _, _, h, _, _ => by simp at h
  | [], [_], _ :: _ :: _, _, _, _, h, _, _ => by simp at h
  | _ :: _, [], _, _, _, h, _, _, _ => by simp at h
  | _ :: _, _ :: _, [], _, _, _, h, _, _ => by simp at h
theorem act_chain {ds : List Door} (hz : NZ ds) : ∀ {es : List Pass} {b : List Int} {st : Stk} {c : Int}, b.length = es.length + 1 → (act ds (wdL b es) (st, c)).1.length = st.length + es.length →
    ∃ rs z, rs.length = es.length ∧ act ds (wdL b es) (st, c) = ((rs.zip es).reverse ++ st, z) ∧ chain ds es (diff b (rs ++ [z])) c = some 0
  | [], [b], st, c, _, _ => ⟨[], c + b, rfl, rfl, by
      show some (c + (b - (c + b))) = some 0
      congr 1
      omega⟩
  | e :: es, b :: bs, st, c, hb, h => by
    have hb' : bs.length = es.length + 1 := by simpa using hb
    have h' : (act ds (wdL bs es) (pas ds (st, c + b) e)).1.length = st.length + (es.length + 1) := h
    have h1 := act_len (ds := ds) (w := wdL bs es) (s := pas ds (st, c + b) e)
    rw [np_wdL hb'] at h1
    have h2 := pas_len (ds := ds) (s := (st, c + b)) (e := e)
    have h3 : (pas ds (st, c + b) e).1.length = st.length + 1 := by
      have := h2.1
      simp only at this
      omega
    have e1 : pas ds (st, c + b) e = (((c + b) % lv ds e, e) :: st, (c + b) / lv ds e * ar ds e) := h2.2 h3
    rw [e1] at h'
    obtain ⟨rs, z, hr, he, hc⟩ := act_chain hz (es := es) (b := bs) hb' (show _ = ((((c + b) % lv ds e, e) :: st).length + es.length) by rw [h']; simp; omega)
    refine ⟨(c + b) % lv ds e :: rs, z, by simpa using hr, ?_, ?_⟩
    · show act ds (wdL bs es) (pas ds (st, c + b) e) = _
      rw [e1, he]
      simp
    · show (if (c + (b - (c + b) % lv ds e)) % lv ds e = 0 then chain ds es (diff bs (rs ++ [z])) ((c + (b - (c + b) % lv ds e)) / lv ds e * ar ds e) else none) = some 0
      have q : c + (b - (c + b) % lv ds e) = lv ds e * ((c + b) / lv ds e) := by
        have := Int.emod_add_mul_ediv (c + b) (lv ds e)
        omega
      rw [q, Int.mul_emod_right, if_pos rfl, Int.mul_ediv_cancel_left _ (lv_ne hz e)]
      exact hc
  | [], [], _, _, h, _ => by simp at h
  | [], _ :: _ :: _, _, _, h, _ => by simp at h
  | _ :: _, [], _, _, h, _ => by simp at h
/-! ### t pulls ahead and t back behind -/
/-- 1, 0 .. 0, -1 -/
def sl (n : Nat) : List Int := 1 :: (List.replicate (n - 1) 0 ++ [-1])
def lin (f s : List Int) (t : Int) : List Int := List.zipWith (fun x y => x + y * t) f s
/-- led by t pulls -/
def Walk.shift (w : Walk) (t : Int) : Walk := ⟨w.room, lin w.pulls (sl w.passes.length) t, w.passes⟩
theorem lin_zero : ∀ {f : List Int} {n : Nat} {t : Int}, f.length = n + 1 → lin f (List.replicate n 0 ++ [-1]) t = f.dropLast ++ [f.getLastD 0 - t]
  | [f], 0, t, _ => by
    show [f + -1 * t] = [f - t]
    congr 1
    omega
  | f :: g :: r, n + 1, t, h => by
    show (f + 0 * t) :: lin (g :: r) (List.replicate n 0 ++ [-1]) t = f :: ((g :: r).dropLast ++ [(g :: r).getLastD 0 - t])
    rw [lin_zero (by simpa using h), Int.zero_mul, Int.add_zero]
  | [], n, _, h => by simp at h
  | [_], n + 1, _, h => by simp at h
  | _ :: _ :: _, 0, _, h => by simp at h
theorem shift_wdL {ds : List Door} (hz : NZ ds) : ∀ {es : List Pass} {ps : List Int} {t : Int}, ps.length = es.length + 1 → (∀ e, e ∈ es → Sd e) → Eqv ds (wdL (ps.dropLast ++ [ps.getLastD 0 - t]) es) (wdL ps es ++ [.x (-t)])
  | [], [p], t, _, _ => by
    show Eqv ds [.x (p - t)] [.x p, .x (-t)]
    rw [Int.sub_eq_add_neg]
    exact eqv_xx.symm
  | e :: es, p :: q :: r, t, h, o => by
    have ih := shift_wdL hz (es := es) (ps := q :: r) (t := t) (by simpa using h) fun f hf => o f (List.mem_cons_of_mem _ hf)
    show Eqv ds ([.x p, .e e] ++ wdL ((q :: r).dropLast ++ [(q :: r).getLastD 0 - t]) es) ([.x p, .e e] ++ (wdL (q :: r) es ++ [.x (-t)]))
    exact Eqv.pre hz (ok_x.app (ok_e (o e List.mem_cons_self))) ih
  | [], [], _, h, _ => by simp at h
  | [], _ :: _ :: _, _, h, _ => by simp at h
  | _ :: _, [], _, h, _ => by simp at h
  | _ :: _, [_], _, h, _ => by simp at h
section
variable {ds : List Door} {w v u : Walk} {t : Int}
theorem lin_len {f s : List Int} {t : Int} (h : f.length = s.length) : (lin f s t).length = f.length := by
  unfold lin
  rw [List.length_zipWith]
  omega
theorem sl_len {n : Nat} (h : 0 < n) : (sl n).length = n + 1 := by
  unfold sl
  simp
  omega
theorem shift_len (h : w.pulls.length = w.passes.length + 1) (hn : 0 < w.passes.length) : (w.shift t).pulls.length = w.passes.length + 1 := by
  show (lin w.pulls (sl w.passes.length) t).length = _
  rw [lin_len (by rw [sl_len hn, h]), h]
theorem shift_wd (hz : NZ ds) (h : w.pulls.length = w.passes.length + 1) (o : ∀ e, e ∈ w.passes → Sd e) (hn : 0 < w.passes.length) : Eqv ds (w.shift t).wd ([.x t] ++ w.wd ++ [.x (-t)]) := by
  obtain ⟨room, ps, es⟩ := w
  cases es with
  | nil => exact absurd hn (by simp)
  | cons e es =>
    cases ps with
    | nil => simp at h
    | cons p ps =>
      have hl : ps.length = es.length + 1 := by simpa using h
      have e1 : (Walk.shift ⟨room, p :: ps, e :: es⟩ t).wd = .x (p + t) :: .e e :: wdL (ps.dropLast ++ [ps.getLastD 0 - t]) es := by
        show wdL (lin (p :: ps) (1 :: (List.replicate es.length 0 ++ [-1])) t) (e :: es) = _
        have : lin (p :: ps) (1 :: (List.replicate es.length 0 ++ [-1])) t = (p + 1 * t) :: lin ps (List.replicate es.length 0 ++ [-1]) t := rfl
        rw [this, lin_zero hl, Int.one_mul]
        rfl
      rw [e1]
      have he := o e List.mem_cons_self
      show Eqv ds ([.x (p + t)] ++ ([.e e] ++ wdL (ps.dropLast ++ [ps.getLastD 0 - t]) es)) ([.x t, .x p] ++ ([.e e] ++ (wdL ps es ++ [.x (-t)])))
      rw [Int.add_comm p t]
      exact Eqv.app hz ok_x eqv_xx.symm (Eqv.pre hz (ok_e he) (shift_wdL hz hl fun f hf => o f (List.mem_cons_of_mem _ hf)))
/-- u is led by x pulls to v, by a chain of carryings -/
structure Joins (ds : List Door) (u v : Walk) (x : Int) : Prop where
  room : u.room = v.room
  passes : u.passes = v.passes
  chain : chain ds u.passes (lin (diff v.pulls u.pulls) (sl u.passes.length) x) 0 = some 0
theorem diff_lin : ∀ {a b s : List Int} {t : Int}, lin (diff b a) s t = diff (lin b s t) a
  | [], b, s, t => by
    cases b <;> cases s <;> rfl
  | a :: as, [], s, t => by
    cases s <;> rfl
  | a :: as, b :: bs, [], t => rfl
  | a :: as, b :: bs, s :: ss, t => by
    show (b - a + s * t) :: lin (diff bs as) ss t = (b + s * t - a) :: diff (lin bs ss t) as
    rw [diff_lin]
    congr 1
    omega
theorem Joins.eqv (hz : NZ ds) (h : Joins ds u v t) (lu : u.pulls.length = u.passes.length + 1) (lv : v.pulls.length = v.passes.length + 1) (o : ∀ e, e ∈ u.passes → Sd e) (hn : 0 < u.passes.length) :
    Eqv ds u.wd ([.x t] ++ v.wd ++ [.x (-t)]) := by
  obtain ⟨h1, h2, h3⟩ := h
  rw [diff_lin] at h3
  have ov : ∀ e, e ∈ v.passes → Sd e := by
    rw [← h2]
    exact o
  have hnv : 0 < v.passes.length := by
    rw [← h2]
    exact hn
  have sh := shift_wd (t := t) hz lv ov hnv
  have ll : (lin v.pulls (sl u.passes.length) t).length = u.passes.length + 1 := by
    rw [h2]
    exact shift_len (t := t) lv hnv
  have c := chain_eqv hz lu ll o h3
  refine Eqv.trans ?_ sh
  have e : (v.shift t).wd = wdL (lin v.pulls (sl u.passes.length) t) u.passes := by
    show wdL (lin v.pulls (sl v.passes.length) t) v.passes = _
    rw [h2]
  rw [e]
  have a1 : Eqv ds (wdL (lin v.pulls (sl u.passes.length) t) u.passes) ([.x 0] ++ wdL (lin v.pulls (sl u.passes.length) t) u.passes) := (Eqv.post (w' := []) hz eqv_x0).symm
  have a2 : Eqv ds (u.wd ++ [.x 0]) u.wd := by
    have := Eqv.pre hz (wdL_ok (ps := u.pulls) o) eqv_x0
    rw [List.append_nil] at this
    exact this
  exact (a1.trans (c.trans a2)).symm
/-- plain walks -/
def IsPl (ds : List Door) (w : Walk) : Prop := ∃ s : S, Pl ds s.1 ∧ w = ofSt w.room s
theorem nfW_pl (hz : NZ ds) (o : Ok w.wd) : IsPl ds (nfW ds w) := ⟨_, act_plain hz o, rfl⟩
theorem IsPl.act (hz : NZ ds) (h : IsPl ds w) : ∃ s : S, Pl ds s.1 ∧ w = ofSt w.room s ∧ act ds w.wd s0 = s := by
  obtain ⟨s, hs, e⟩ := h
  refine ⟨s, hs, e, ?_⟩
  rw [e, ofSt_wd]
  exact sw_act hz hs
theorem IsPl.nfW (hz : NZ ds) (h : IsPl ds w) : nfW ds w = w := by
  obtain ⟨s, hs, e, ha⟩ := h.act hz
  unfold PR.nfW
  rw [ha]
  exact e.symm
theorem IsPl.ok (h : IsPl ds w) : Ok w.wd := by
  obtain ⟨s, hs, e⟩ := h
  rw [e, ofSt_wd]
  exact sw_ok hs
theorem IsPl.len (h : IsPl ds w) : w.pulls.length = w.passes.length + 1 := by
  obtain ⟨s, hs, e⟩ := h
  rw [e]
  simp [ofSt]
theorem IsPl.sd (h : IsPl ds w) : ∀ e, e ∈ w.passes → Sd e := by
  obtain ⟨s, hs, e⟩ := h
  rw [e]
  intro f hf
  have : f ∈ s.1.map (·.2) := by simpa [ofSt] using hf
  obtain ⟨q, hq, rfl⟩ := List.mem_map.mp this
  clear this hf e
  obtain ⟨st, z⟩ := s
  simp only at hs hq
  induction st with
  | nil => cases hq
  | cons y st ih =>
    rcases List.mem_cons.mp hq with hq | hq
    · rw [hq]
      exact hs.1
    · exact ih hs.2.2.2 hq
/-- as many passes as the plain form: what it does by a chain -/
theorem joins_of (hz : NZ ds) (hu : IsPl ds u) (lv : v.pulls.length = v.passes.length + 1) (o : ∀ e, e ∈ v.passes → Sd e) (hn : 0 < v.passes.length) (hlen : u.passes.length = v.passes.length)
    (hr : u.room = v.room) (h : Eqv ds u.wd ([.x t] ++ v.wd ++ [.x (-t)])) : Joins ds u v t := by
  obtain ⟨s, hs, e, ha⟩ := hu.act hz
  have sh := shift_wd (t := t) hz lv o hn
  have ea : act ds (v.shift t).wd s0 = s := by
    rw [sh s0 (show Pl ds [] from trivial), ← h s0 (show Pl ds [] from trivial)]
    exact ha
  have ls : s.1.length = v.passes.length := by
    rw [← hlen, e]
    simp [ofSt]
  have lb := shift_len (t := t) lv hn
  obtain ⟨rs, z, hrs, he, hc⟩ := act_chain hz (es := v.passes) (b := (v.shift t).pulls) (st := []) (c := 0) lb (by
    show (act ds (v.shift t).wd s0).1.length = _
    rw [ea, ls]
    simp)
  have es : s = ((rs.zip v.passes).reverse, z) := by
    have e3 : act ds (v.shift t).wd s0 = ((rs.zip v.passes).reverse ++ [], z) := he
    rw [← ea, e3, List.append_nil]
  have ep : u.passes = v.passes := by
    rw [e, es]
    show (List.map (·.2) (rs.zip v.passes).reverse).reverse = v.passes
    rw [List.map_reverse, List.reverse_reverse]
    exact List.map_snd_zip (by omega)
  have eq2 : u.pulls = rs ++ [z] := by
    rw [e, es]
    show (List.map (·.1) (rs.zip v.passes).reverse).reverse ++ [z] = rs ++ [z]
    rw [List.map_reverse, List.reverse_reverse]
    congr 1
    exact List.map_fst_zip (by omega)
  refine ⟨hr, ep, ?_⟩
  rw [diff_lin, eq2, ep]
  exact hc
end
end PR

namespace PR
/-! ### a walk begun later -/
def roomAt (ds : List Door) (w : Walk) (m : Nat) : Int := if m = 0 then w.room else dst ds (w.passes.getD (m - 1) (0, 0))
def goneW (w : Walk) (m : Nat) : Walk := ⟨w.room, w.pulls.take m ++ [0], w.passes.take m⟩
def laterW (ds : List Door) (w : Walk) (m : Nat) : Walk := ⟨roomAt ds w m, w.pulls.drop m, w.passes.drop m⟩
def turnW (ds : List Door) (w : Walk) (m : Nat) : Walk := if m = 0 then w else (laterW ds w m).join (goneW w m)
section
variable {ds : List Door} {w v u c : Walk} {t r : Int} {m n : Nat}
theorem path_take (h : Path ds w.room w.passes r) (hm : m ≤ w.passes.length) : Path ds w.room (w.passes.take m) (roomAt ds w m) ∧ Path ds (roomAt ds w m) (w.passes.drop m) r := by
  have e : Path ds w.room (w.passes.take m ++ w.passes.drop m) r := by
    rw [List.take_append_drop]
    exact h
  obtain ⟨k, a, b⟩ := e.split
  have ek : k = roomAt ds w m := by
    unfold roomAt
    cases m with
    | zero =>
      rw [if_pos rfl]
      rw [List.take_zero] at a
      exact Eq.symm a
    | succ m =>
      rw [if_neg (by omega)]
      have hm' : m < w.passes.length := by omega
      rw [List.take_add_one, List.getElem?_eq_getElem hm'] at a
      have := (Path.snoc_inv (e := w.passes[m]) a).2.2
      rw [this]
      congr 1
      show _ = w.passes.getD m (0, 0)
      rw [List.getD_eq_getElem?_getD, List.getElem?_eq_getElem hm']
      rfl
  rw [← ek]
  exact ⟨a, b⟩
theorem gone_ok (h : WOk ds w r) (hm : m ≤ w.passes.length) : WOk ds (goneW w m) (roomAt ds w m) := by
  refine ⟨?_, (path_take h.path hm).1⟩
  have := h.len
  show (w.pulls.take m ++ [0]).length = (w.passes.take m).length + 1
  simp
  omega
theorem later_ok (h : WOk ds w r) (hm : m ≤ w.passes.length) : WOk ds (laterW ds w m) r := by
  refine ⟨?_, (path_take h.path hm).2⟩
  have := h.len
  show (w.pulls.drop m).length = (w.passes.drop m).length + 1
  simp
  omega
theorem split_wd (hz : NZ ds) (h : WOk ds w r) (hm : m ≤ w.passes.length) : Eqv ds w.wd ((goneW w m).wd ++ (laterW ds w m).wd) := by
  have hl : (w.pulls.take m).length = (w.passes.take m).length := by
    have := h.len
    simp
    omega
  have e1 := wdL_append (qs := w.pulls.drop m) (fs := w.passes.drop m) hl
  rw [List.take_append_drop, List.take_append_drop] at e1
  have e2 := wdL_append (qs := [0]) (fs := []) hl
  rw [List.append_nil] at e2
  have ow := h.ok
  unfold Walk.wd at ow ⊢
  rw [e1] at ow ⊢
  show Eqv ds _ (wdL (w.pulls.take m ++ [0]) (w.passes.take m) ++ wdL (w.pulls.drop m) (w.passes.drop m))
  rw [e2, List.append_assoc]
  refine Eqv.pre hz ow.left ?_
  exact (Eqv.post (w' := []) hz eqv_x0).symm
theorem turn_room : (turnW ds w m).room = roomAt ds w m := by
  unfold turnW
  split
  · rename_i e
    rw [e]
    rfl
  · rfl
theorem turn_ok (hz : NZ ds) (h : WOk ds w w.room) (hm : m ≤ w.passes.length) : WOk ds (turnW ds w m) (roomAt ds w m) := by
  unfold turnW
  split
  · rename_i e
    rw [e]
    exact h
  · exact join_ok (later_ok h hm) (gone_ok h hm) rfl
theorem turn_wd (hz : NZ ds) (h : WOk ds w w.room) (hm : m ≤ w.passes.length) : Eqv ds (turnW ds w m).wd ((laterW ds w m).wd ++ (goneW w m).wd) := by
  unfold turnW
  split
  · rename_i e
    subst e
    have e1 : (laterW ds w 0).wd = w.wd := rfl
    have e2 : (goneW w 0).wd = [.x 0] := rfl
    rw [e1, e2]
    have := Eqv.pre hz h.ok (eqv_x0 (ds := ds))
    rw [List.append_nil] at this
    exact this.symm
  · exact join_wd (r := w.room) hz (later_ok h hm) (gone_ok h hm).len
theorem turn_np (h : WOk ds w w.room) (hm : m ≤ w.passes.length) (hz : NZ ds) : (turnW ds w m).passes.length = w.passes.length := by
  unfold turnW
  split
  · rfl
  · show (w.passes.drop m ++ w.passes.take m).length = _
    simp
    omega
/-- what the law asks: some core of c, begun later, is led by pulls to m -/
def Due (ds : List Door) (c m : Walk) : Prop := ∃ k, k < c.passes.length ∧ ∃ x, Joins ds (nfW ds (turnW ds c k)) m x
/-! ### group reckoning -/
theorem e_in (hz : NZ ds) {a b : List G} (ob : Ok b) {c : List G} (oa : Ok a) : Eqv ds (a ++ (b ++ (winv b ++ c))) (a ++ c) := by
  refine Eqv.pre hz oa ?_
  rw [← List.append_assoc]
  exact Eqv.post (w' := []) hz (eqv_winv hz ob)
theorem e_inL (hz : NZ ds) {a b : List G} (ob : Ok b) {c : List G} (oa : Ok a) : Eqv ds (a ++ (winv b ++ (b ++ c))) (a ++ c) := by
  refine Eqv.pre hz oa ?_
  rw [← List.append_assoc]
  exact Eqv.post (w' := []) hz (eqv_winvL hz ob)
theorem len_act_le {a : List G} (hz : NZ ds) (o : Ok a) {b : List G} (ob : Ok b) (h : Eqv ds a b) : (act ds a s0).1.length ≤ np b := by
  rw [h s0 (show Pl ds [] from trivial)]
  have := act_len (ds := ds) (w := b) (s := s0)
  simpa using this
/-- pulls ahead and behind do not make it shorter -/
theorem len_shift (hz : NZ ds) {a : List G} (o : Ok a) (t : Int) : (act ds a s0).1.length ≤ (act ds ([.x t] ++ a ++ [.x (-t)]) s0).1.length := by
  have o2 : Ok ([G.x t] ++ a ++ [G.x (-t)]) := (ok_x.app o).app ok_x
  have h1 := nf_eqv hz o2
  have h2 : Eqv ds a ([.x (-t)] ++ (sw (act ds ([.x t] ++ a ++ [.x (-t)]) s0) ++ [.x t])) := by
    refine Eqv.symm ((Eqv.pre hz ok_x (Eqv.post hz h1)).trans ?_)
    have e : [G.x (-t)] ++ (([G.x t] ++ a ++ [G.x (-t)]) ++ [G.x t]) = ([G.x (-t), G.x t] ++ a) ++ [G.x (-t), G.x t] := by simp
    have q : Eqv ds [G.x (-t), G.x t] [] := by
      refine eqv_xx.trans ?_
      rw [Int.add_left_neg]
      exact eqv_x0
    rw [e]
    refine (Eqv.app hz ((ok_x.app ok_x).app o) (Eqv.post (w' := []) hz q) q).trans ?_
    rw [List.append_nil]
    exact .rfl
  have ok3 : Ok ([G.x (-t)] ++ (sw (act ds ([.x t] ++ a ++ [.x (-t)]) s0) ++ [G.x t])) := ok_x.app ((sw_ok (act_pl hz o2 (show Pl ds [] from trivial))).app ok_x)
  have := len_act_le hz o ok3 h2
  rw [np_app, np_app, np_sw] at this
  simpa [np] using this
theorem nfW_np (ds : List Door) (w : Walk) : (nfW ds w).passes.length = (act ds w.wd s0).1.length := by
  show ((act ds w.wd s0).1.map (·.2)).reverse.length = _
  simp
theorem xx (i : Int) : Eqv ds [.x i, .x (-i)] [] := by
  refine eqv_xx.trans ?_
  rw [Int.add_right_neg]
  exact eqv_x0
theorem xx' (i : Int) : Eqv ds [.x (-i), .x i] [] := by
  refine eqv_xx.trans ?_
  rw [Int.add_left_neg]
  exact eqv_x0
/-- the mate begun later is led by pulls to the core -/
theorem turn_back (hz : NZ ds) {c m : Walk} {k : Nat} {x : Int} (wc : WOk ds c c.room) (wm : WOk ds m m.room) (hl : c.passes.length = m.passes.length) (hk : k < c.passes.length) (hk0 : k ≠ 0)
    (J : Joins ds (nfW ds (turnW ds c k)) m x) : ∃ z, Eqv ds (turnW ds m (c.passes.length - k)).wd ([.x z] ++ c.wd ++ [.x (-z)]) := by
  have hk' : k ≤ c.passes.length := by omega
  have okT := turn_ok hz wc hk'
  have okN := nfW_ok hz okT
  have sdN : ∀ e, e ∈ (nfW ds (turnW ds c k)).passes → Sd e := fun e he => (okN.path.mem e he).2
  have nN : (nfW ds (turnW ds c k)).passes.length = c.passes.length := by
    rw [J.passes, hl]
  -- later · gone = x · m · -x
  have E0 : Eqv ds (nfW ds (turnW ds c k)).wd ([.x x] ++ m.wd ++ [.x (-x)]) := J.eqv hz okN.len wm.len sdN (by omega)
  have E1 : Eqv ds ((laterW ds c k).wd ++ (goneW c k).wd) ([.x x] ++ m.wd ++ [.x (-x)]) := ((turn_wd hz wc hk').symm.trans (nfW_eqv hz okT.ok).symm).trans E0
  have oL := (later_ok wc hk').ok
  have oG := (gone_ok wc hk').ok
  have nL : np (laterW ds c k).wd = c.passes.length - k := by
    rw [show np (laterW ds c k).wd = (c.passes.drop k).length from np_wdL (later_ok wc hk').len]
    simp
  have nG : np (goneW c k).wd = k := by
    rw [show np (goneW c k).wd = (c.passes.take k).length from np_wdL (gone_ok wc hk').len]
    simp
    omega
  -- the mate, begun n - k passes later
  let j := c.passes.length - k
  have hj : j ≤ m.passes.length := by
    show c.passes.length - k ≤ _
    omega
  have oL' := (later_ok wm hj).ok
  have oG' := (gone_ok wm hj).ok
  have nG' : np (goneW m j).wd = j := by
    rw [show np (goneW m j).wd = (m.passes.take j).length from np_wdL (gone_ok wm hj).len]
    simp
    omega
  have nL' : np (laterW ds m j).wd = k := by
    rw [show np (laterW ds m j).wd = (m.passes.drop j).length from np_wdL (later_ok wm hj).len]
    simp
    show m.passes.length - (c.passes.length - k) = k
    omega
  have E2 : Eqv ds ((laterW ds c k).wd ++ (goneW c k).wd) (([.x x] ++ (goneW m j).wd) ++ ((laterW ds m j).wd ++ [.x (-x)])) := by
    refine E1.trans ?_
    rw [List.append_assoc, List.append_assoc, ← List.append_assoc (goneW m j).wd]
    exact Eqv.pre hz ok_x (Eqv.post hz (split_wd hz wm hj))
  -- no pass cancels: both beginnings come to one stack
  have e0 := E2 s0 (show Pl ds [] from trivial)
  have lenF : (act ds ((laterW ds c k).wd ++ (goneW c k).wd) s0).1.length = c.passes.length := by
    have q := turn_wd hz wc hk' s0 (show Pl ds [] from trivial)
    rw [← q, ← nfW_np]
    exact nN
  have grow : ∀ {A B : List G}, np A + np B = c.passes.length → np A = j → (act ds (A ++ B) s0).1.length = c.passes.length → (act ds A s0).1 = (act ds (A ++ B) s0).1.drop (np B) := by
    intro A B hAB hA hF
    rw [act_app] at hF ⊢
    have l1 := act_len (ds := ds) (w := A) (s := s0)
    have l2 := act_len (ds := ds) (w := B) (s := act ds A s0)
    have l1' : (act ds A s0).1.length ≤ np A := by simpa using l1
    obtain ⟨new, e⟩ := act_grow (ds := ds) (w := B) (s := act ds A s0) (by omega)
    have l3 : (act ds B (act ds A s0)).1.length = (act ds A s0).1.length + np B := by omega
    have ln : new.length = np B := by
      rw [e, List.length_append] at l3
      omega
    rw [e, ← ln, List.drop_left]
  have g1 := grow (A := (laterW ds c k).wd) (B := (goneW c k).wd) (by omega) nL lenF
  have npx : ∀ {i : Int} {w : List G}, np ([.x i] ++ w) = np w := fun {i w} => rfl
  have npx2 : ∀ {i : Int} {w : List G}, np (w ++ [.x i]) = np w := fun {i w} => by
    rw [np_app]
    rfl
  have g2 := grow (A := [.x x] ++ (goneW m j).wd) (B := (laterW ds m j).wd ++ [.x (-x)]) (by rw [npx, npx2, nG', nL']; show c.passes.length - k + k = _; omega) (by rw [npx, nG']) (by rw [← e0]; exact lenF)
  have g3 : (act ds (laterW ds c k).wd s0).1 = (act ds ([.x x] ++ (goneW m j).wd) s0).1 := by
    rw [g1, g2, e0, npx2, nL', nG]
  let z := (act ds (laterW ds c k).wd s0).2 - (act ds ([.x x] ++ (goneW m j).wd) s0).2
  have E3 : Eqv ds (laterW ds c k).wd (([.x x] ++ (goneW m j).wd) ++ [.x z]) := by
    refine (eqv_iff hz oL ((ok_x.app oG').app ok_x)).mpr ?_
    rw [act_app]
    show act ds (laterW ds c k).wd s0 = ((act ds ([.x x] ++ (goneW m j).wd) s0).1, (act ds ([.x x] ++ (goneW m j).wd) s0).2 + z)
    rw [← g3]
    show act ds (laterW ds c k).wd s0 = ((act ds (laterW ds c k).wd s0).1, (act ds ([.x x] ++ (goneW m j).wd) s0).2 + ((act ds (laterW ds c k).wd s0).2 - (act ds ([.x x] ++ (goneW m j).wd) s0).2))
    rw [show ∀ a b : Int, a + (b - a) = b by intros; omega]
  -- names
  generalize hLc : (laterW ds c k).wd = L at *
  generalize hGc : (goneW c k).wd = Gc at *
  generalize hLm : (laterW ds m j).wd = L' at *
  generalize hGm : (goneW m j).wd = G' at *
  -- later' · gone' = z · c · -z
  have oX : ∀ i : Int, Ok [.x i] := fun i => ok_x
  -- gone' = -x later -z
  have F1 : Eqv ds G' ([.x (-x)] ++ (L ++ [.x (-z)])) := by
    refine Eqv.symm ((Eqv.pre hz (oX _) (Eqv.post hz E3)).trans ?_)
    have e : [G.x (-x)] ++ ((([G.x x] ++ G') ++ [G.x z]) ++ [G.x (-z)]) = ([G.x (-x), G.x x] ++ G') ++ [G.x z, G.x (-z)] := by simp
    rw [e]
    refine (Eqv.app hz (((oX _).app (oX _)).app oG') (Eqv.post (w' := []) hz (xx' x)) (xx z)).trans ?_
    rw [List.append_nil]
    exact .rfl
  -- later' = z · gone · x
  have F2 : Eqv ds L' ([.x z] ++ (Gc ++ [.x x])) := by
    -- L ++ Gc = (x G') (L' -x), L = x G' z, so (x G') (z Gc) = (x G') (L' -x)
    have a1 : Eqv ds (([.x x] ++ G') ++ ([.x z] ++ Gc)) (([.x x] ++ G') ++ (L' ++ [.x (-x)])) := by
      refine Eqv.trans ?_ E2
      rw [← List.append_assoc]
      exact (Eqv.post hz E3).symm
    have oA : Ok ([.x x] ++ G') := (oX _).app oG'
    have a2 : Eqv ds ([.x z] ++ Gc) (L' ++ [.x (-x)]) := by
      have b1 := Eqv.pre (w := winv ([.x x] ++ G')) hz oA.winv a1
      have b2 := e_inL (a := []) (b := [.x x] ++ G') (c := [.x z] ++ Gc) hz oA .nil
      have b3 := e_inL (a := []) (b := [.x x] ++ G') (c := L' ++ [.x (-x)]) hz oA .nil
      exact b2.symm.trans (b1.trans b3)
    refine Eqv.symm ?_
    rw [← List.append_assoc]
    refine (Eqv.post hz a2).trans ?_
    rw [List.append_assoc]
    have := Eqv.pre hz oL' (xx' x)
    rw [List.append_nil] at this
    exact this
  have F3 : Eqv ds (L' ++ G') ([.x z] ++ (Gc ++ L) ++ [.x (-z)]) := by
    refine (Eqv.app hz oL' F2 F1).trans ?_
    have e : ([G.x z] ++ (Gc ++ [G.x x])) ++ ([G.x (-x)] ++ (L ++ [G.x (-z)])) = ([G.x z] ++ Gc) ++ ([G.x x, G.x (-x)] ++ (L ++ [G.x (-z)])) := by simp
    rw [e]
    refine (Eqv.pre hz ((oX _).app oG) (Eqv.post (w' := []) hz (xx x))).trans ?_
    refine Eqv.of ?_
    simp
  have F4 : Eqv ds (L' ++ G') ([.x z] ++ c.wd ++ [.x (-z)]) := by
    refine F3.trans (Eqv.post hz (Eqv.pre hz (oX _) ?_))
    have := split_wd hz wc hk'
    rw [hGc, hLc] at this
    exact this.symm
  refine ⟨z, ?_⟩
  have t1 := turn_wd hz wm hj
  rw [hGm, hLm] at t1
  exact t1.trans F4
/-- THE OTHER WAY ROUND: cores with as many passes -/
theorem Due.symm (hz : NZ ds) {c m : Walk} (hc : IsPl ds c) (hm : IsPl ds m) (wc : WOk ds c c.room) (wm : WOk ds m m.room) (hl : c.passes.length = m.passes.length) (h : Due ds c m) : Due ds m c := by
  obtain ⟨k, hk, x, J⟩ := h
  obtain ⟨j, hj, z, E⟩ : ∃ j, j < m.passes.length ∧ ∃ z, Eqv ds (turnW ds m j).wd ([.x z] ++ c.wd ++ [.x (-z)]) := by
    by_cases hk0 : k = 0
    · subst hk0
      have e : nfW ds (turnW ds c 0) = c := hc.nfW hz
      rw [e] at J
      have E0 : Eqv ds c.wd ([.x x] ++ m.wd ++ [.x (-x)]) := J.eqv hz wc.len wm.len (fun e he => (wc.path.mem e he).2) (by omega)
      refine ⟨0, by omega, -x, ?_⟩
      show Eqv ds m.wd _
      have om := wm.ok
      refine Eqv.symm ((Eqv.post hz (Eqv.pre hz ok_x E0)).trans ?_)
      have e2 : [G.x (-x)] ++ ([G.x x] ++ m.wd ++ [G.x (-x)]) ++ [G.x (- -x)] = ([G.x (-x), G.x x] ++ m.wd) ++ [G.x (-x), G.x (- -x)] := by simp
      rw [e2]
      refine (Eqv.app hz ((ok_x.app ok_x).app om) (Eqv.post (w' := []) hz (xx' x)) (xx (-x))).trans ?_
      rw [List.append_nil]
      exact .rfl
    · obtain ⟨z, E⟩ := turn_back hz wc wm hl hk hk0 J
      exact ⟨_, by omega, z, E⟩
  have hj' : j ≤ m.passes.length := by omega
  have okM := turn_ok hz wm hj'
  have okMN := nfW_ok hz okM
  have hplN := nfW_pl hz okM.ok
  have hlenN : (nfW ds (turnW ds m j)).passes.length = c.passes.length := by
    have a1 := nfW_len (ds := ds) okM.len
    rw [turn_np wm hj' hz] at a1
    have a2 := len_shift hz hc.ok z
    rw [← E s0 (show Pl ds [] from trivial)] at a2
    have a3 : (act ds c.wd s0).1.length = c.passes.length := by
      rw [← nfW_np, hc.nfW hz]
    have a4 := nfW_np ds (turnW ds m j)
    omega
  have E' : Eqv ds (nfW ds (turnW ds m j)).wd ([.x z] ++ c.wd ++ [.x (-z)]) := (nfW_eqv hz okM.ok).trans E
  -- the rooms: the first pass tells them
  have jp : (nfW ds (turnW ds m j)).passes = c.passes := (joins_of (v := ⟨(nfW ds (turnW ds m j)).room, c.pulls, c.passes⟩) hz hplN wc.len (fun e he => (wc.path.mem e he).2) (by show 0 < c.passes.length; omega) hlenN rfl E').passes
  have hroom : (nfW ds (turnW ds m j)).room = c.room := by
    have p1 := okMN.path
    have p2 := wc.path
    rw [jp] at p1
    cases hcp : c.passes with
    | nil =>
      rw [hcp] at hk
      simp at hk
    | cons e es =>
      rw [hcp] at p1 p2
      exact p1.2.1.symm.trans p2.2.1
  exact ⟨j, hj, z, joins_of hz hplN wc.len (fun e he => (wc.path.mem e he).2) (by omega) hlenN hroom E'⟩
end
end PR

namespace PR
/-! ### cores -/
def lastP (w : Walk) : Pass := w.passes.getLastD (0, 0)
def shutsB (ds : List Door) (w : Walk) : Bool := decide (2 ≤ w.passes.length) && (decide (w.passes.headD (0, 0) = inv (lastP w)) && decide ((w.pulls.getLastD 0 + w.pulls.headD 0) % ar ds (lastP w) = 0))
def inner (ds : List Door) (w : Walk) : Walk :=
  ⟨dst ds (w.passes.headD (0, 0)), w.pulls.tail.dropLast.dropLast ++ [w.pulls.dropLast.getLastD 0 + lv ds (lastP w) * ((w.pulls.getLastD 0 + w.pulls.headD 0) / ar ds (lastP w))], w.passes.tail.dropLast⟩
def coreN (ds : List Door) : Nat → Walk → Walk
  | 0, w => w
  | k + 1, w => if shutsB ds w = true then coreN ds k (nfW ds (inner ds w)) else w
def coreW (ds : List Door) (w : Walk) : Walk := coreN ds (nfW ds w).passes.length (nfW ds w)
def firstP (w : Walk) : Walk := ⟨w.room, [w.pulls.headD 0, 0], [w.passes.headD (0, 0)]⟩
section
variable {ds : List Door} {w v u c : Walk} {t r : Int} {m n k : Nat}
theorem shuts_form (h : shutsB ds w = true) (hl : w.pulls.length = w.passes.length + 1) : ∃ p0 mp pa pn e0 mid en, w = ⟨w.room, p0 :: (mp ++ [pa, pn]), e0 :: (mid ++ [en])⟩ ∧ mp.length = mid.length ∧ e0 = inv en ∧ (pn + p0) % ar ds en = 0 := by
  unfold shutsB at h
  simp only [Bool.and_eq_true, decide_eq_true_eq] at h
  obtain ⟨h1, h2, h3⟩ := h
  obtain ⟨room, ps, es⟩ := w
  simp only at h1 hl
  cases es with
  | nil => simp at h1
  | cons e0 es =>
    cases ps with
    | nil => simp at hl
    | cons p0 ps =>
      have he : es ≠ [] := by
        rintro rfl
        simp at h1
      have lps : ps.length = es.length + 1 := by simpa using hl
      obtain ⟨mid, en, rfl⟩ : ∃ mid en, es = mid ++ [en] := ⟨es.dropLast, es.getLast he, (List.dropLast_concat_getLast he).symm⟩
      have hp : ps ≠ [] := by
        rintro rfl
        simp at lps
      obtain ⟨mp', pn, rfl⟩ : ∃ mp' pn, ps = mp' ++ [pn] := ⟨ps.dropLast, ps.getLast hp, (List.dropLast_concat_getLast hp).symm⟩
      have hp' : mp' ≠ [] := by
        rintro rfl
        simp at lps
      obtain ⟨mp, pa, rfl⟩ : ∃ mp pa, mp' = mp ++ [pa] := ⟨mp'.dropLast, mp'.getLast hp', (List.dropLast_concat_getLast hp').symm⟩
      have e1 : lastP ⟨room, p0 :: (mp ++ [pa] ++ [pn]), e0 :: (mid ++ [en])⟩ = en := by
        show (e0 :: (mid ++ [en])).getLastD (0, 0) = en
        rw [← List.cons_append, List.getLastD_concat]
      have e2 : (p0 :: (mp ++ [pa] ++ [pn])).getLastD 0 = pn := by
        rw [← List.cons_append, List.getLastD_concat]
      rw [e1] at h2 h3
      simp only at h2 h3
      rw [e2] at h3
      refine ⟨p0, mp, pa, pn, e0, mid, en, by simp, ?_, h2, h3⟩
      simpa using lps
theorem inner_form {p0 pa pn : Int} {mp : List Int} {e0 en : Pass} {mid : List Pass} (hw : w = ⟨w.room, p0 :: (mp ++ [pa, pn]), e0 :: (mid ++ [en])⟩) :
    inner ds w = ⟨dst ds e0, mp ++ [pa + lv ds en * ((pn + p0) / ar ds en)], mid⟩ := by
  have e1 : lastP w = en := by
    unfold lastP
    rw [hw]
    show (e0 :: (mid ++ [en])).getLastD (0, 0) = en
    rw [← List.cons_append, List.getLastD_concat]
  have e2 : w.pulls = (p0 :: mp ++ [pa]) ++ [pn] := by
    rw [hw]
    simp
  unfold inner
  rw [e1, e2]
  rw [List.getLastD_concat, List.dropLast_concat]
  have e3 : ((p0 :: mp ++ [pa]) ++ [pn]).tail = (mp ++ [pa]) ++ [pn] := by simp
  rw [e3, List.dropLast_concat, List.dropLast_concat, List.getLastD_concat]
  have e4 : w.passes = e0 :: (mid ++ [en]) := by rw [hw]
  rw [e4]
  show Walk.mk (dst ds e0) (mp ++ [pa + lv ds en * ((pn + p0) / ar ds en)]) ((mid ++ [en]).dropLast) = _
  rw [List.dropLast_concat]
/-- the inner walk is the walk led by its first pass -/
theorem inner_ok (hw : WOk ds w w.room) (h : shutsB ds w = true) : WOk ds (inner ds w) (inner ds w).room ∧ (inner ds w).passes.length + 2 = w.passes.length ∧ (inner ds w).room = dst ds (w.passes.headD (0, 0)) := by
  obtain ⟨p0, mp, pa, pn, e0, mid, en, e, hl, hi, hm⟩ := shuts_form h hw.len
  rw [inner_form e]
  have hp := hw.path
  have e4 : w.passes = e0 :: (mid ++ [en]) := by rw [e]
  rw [e4] at hp ⊢
  obtain ⟨q1, q2, q3⟩ := hp
  obtain ⟨x, a, b⟩ := Path.split q3
  have sn : Sd en := b.1.2
  refine ⟨⟨by simp; omega, ?_⟩, by simp, rfl⟩
  show Path ds (dst ds e0) mid (dst ds e0)
  have e5 : x = dst ds e0 := by
    rw [hi, dst_inv sn]
    exact b.2.1.symm
  rw [e5] at a
  exact a
theorem first_ok (hw : WOk ds w w.room) (h : shutsB ds w = true) : WOk ds (firstP w) (inner ds w).room := by
  obtain ⟨p0, mp, pa, pn, e0, mid, en, e, hl, hi, hm⟩ := shuts_form h hw.len
  have hp := hw.path
  have e4 : w.passes = e0 :: (mid ++ [en]) := by rw [e]
  rw [inner_form e]
  refine ⟨rfl, ?_⟩
  show Path ds w.room [w.passes.headD (0, 0)] (dst ds e0)
  rw [e4] at hp ⊢
  exact ⟨hp.1, hp.2.1, rfl⟩
theorem inner_eqv (hz : NZ ds) (hw : WOk ds w w.room) (h : shutsB ds w = true) : Eqv ds (inner ds w).wd (winv (firstP w).wd ++ w.wd ++ (firstP w).wd) := by
  obtain ⟨p0, mp, pa, pn, e0, mid, en, e, hl, hi, hm⟩ := shuts_form h hw.len
  rw [inner_form e]
  have hp := hw.path
  have e4 : w.passes = e0 :: (mid ++ [en]) := by rw [e]
  have e5 : w.pulls = p0 :: (mp ++ [pa, pn]) := by rw [e]
  have s0 : Sd e0 := by
    have := hp.mem e0 (by rw [e4]; exact List.mem_cons_self)
    exact this.2
  have sn : Sd en := by
    have := hp.mem en (by rw [e4]; simp)
    exact this.2
  have smid : ∀ f, f ∈ mid → Sd f := fun f hf => by
    have := hp.mem f (by rw [e4]; simp [hf])
    exact this.2
  have f1 : (firstP w).wd = [.x p0, .e e0, .x 0] := by
    show wdL [w.pulls.headD 0, 0] [w.passes.headD (0, 0)] = _
    rw [e4, e5]
    rfl
  have oM : Ok (wdL mp mid) := wdL_ok smid
  have f2 : w.wd = [.x p0, .e e0] ++ (wdL mp mid ++ [.x pa, .e en, .x pn]) := by
    show wdL w.pulls w.passes = _
    rw [e4, e5]
    show .x p0 :: .e e0 :: wdL (mp ++ [pa, pn]) (mid ++ [en]) = _
    rw [wdL_append hl]
    rfl
  have f3 : wdL (mp ++ [pa + lv ds en * ((pn + p0) / ar ds en)]) mid = wdL mp mid ++ [.x (pa + lv ds en * ((pn + p0) / ar ds en))] := by
    have := wdL_append (qs := [pa + lv ds en * ((pn + p0) / ar ds en)]) (fs := []) hl
    rw [List.append_nil] at this
    exact this
  show Eqv ds (wdL (mp ++ [pa + lv ds en * ((pn + p0) / ar ds en)]) mid) _
  rw [f3]
  refine Eqv.symm ?_
  rw [f1, f2]
  have iv : winv [G.x p0, .e e0, .x 0] = [.x (-0), .e (inv e0), .x (-p0)] := rfl
  rw [iv]
  -- -0 e0' -p0 p0 e0 M pa en pn p0 e0 0
  have a1 : Eqv ds ([G.x (-0), .e (inv e0), .x (-p0)] ++ ([.x p0, .e e0] ++ (wdL mp mid ++ [.x pa, .e en, .x pn]))) (wdL mp mid ++ [.x pa, .e en, .x pn]) := by
    have e : [G.x (-0), .e (inv e0), .x (-p0)] ++ ([.x p0, .e e0] ++ (wdL mp mid ++ [.x pa, .e en, .x pn])) = [G.x (-0)] ++ ([.e (inv e0)] ++ ([.x (-p0), .x p0] ++ ([.e e0] ++ (wdL mp mid ++ [.x pa, .e en, .x pn])))) := by simp
    rw [e]
    have s0' := inv_sd s0
    refine (Eqv.pre hz ok_x (Eqv.pre hz (ok_e s0') (Eqv.post (w' := []) hz (xx' p0)))).trans ?_
    show Eqv ds ([G.x (-0)] ++ ([.e (inv e0), .e e0] ++ (wdL mp mid ++ [.x pa, .e en, .x pn]))) _
    have q := eqv_inv hz s0'
    rw [inv_inv] at q
    refine (Eqv.pre hz ok_x (Eqv.post (w' := []) hz q)).trans ?_
    rw [Int.neg_zero]
    exact Eqv.post (w' := []) hz eqv_x0
  refine (Eqv.post hz a1).trans ?_
  have e6 : wdL mp mid ++ [G.x pa, .e en, .x pn] ++ [.x p0, .e e0, .x 0] = (wdL mp mid ++ [.x pa]) ++ ([.e en] ++ ([.x pn, .x p0] ++ [.e e0, .x 0])) := by simp
  rw [e6]
  have oA : Ok (wdL mp mid ++ [.x pa]) := oM.app ok_x
  refine (Eqv.pre hz oA (Eqv.pre hz (ok_e sn) (Eqv.post hz eqv_xx))).trans ?_
  have q : pn + p0 = ar ds en * ((pn + p0) / ar ds en) := (mul_cancel hm).symm
  refine (Eqv.pre hz oA (v' := [.x (lv ds en * ((pn + p0) / ar ds en))]) ?_).trans ?_
  · generalize hT : (pn + p0) / ar ds en = T at q
    rw [q, hi]
    show Eqv ds ([.e en, .x (ar ds en * T)] ++ [.e (inv en), .x 0]) _
    refine (Eqv.post hz (eqv_carry hz).symm).trans ?_
    show Eqv ds ([.x (lv ds en * T)] ++ ([.e en, .e (inv en)] ++ [.x 0])) ([.x (lv ds en * T)] ++ [])
    exact Eqv.pre hz ok_x ((Eqv.post (w' := []) hz (eqv_inv hz sn)).trans eqv_x0)
  · rw [List.append_assoc]
    exact Eqv.pre hz oM eqv_xx
theorem shuts_len (h : shutsB ds w = true) : 2 ≤ w.passes.length := by
  unfold shutsB at h
  simp only [Bool.and_eq_true, decide_eq_true_eq] at h
  exact h.1
/-- what holds of a walk on the way to its core -/
structure Cr (ds : List Door) (w : Walk) : Prop where
  pl : IsPl ds w
  ok : WOk ds w w.room
theorem cr_nf (hz : NZ ds) (h : WOk ds w w.room) : Cr ds (nfW ds w) := ⟨nfW_pl hz h.ok, nfW_ok hz h⟩
theorem cr_next (hz : NZ ds) (h : Cr ds w) (hs : shutsB ds w = true) : Cr ds (nfW ds (inner ds w)) ∧ (nfW ds (inner ds w)).passes.length + 2 ≤ w.passes.length := by
  have i := inner_ok h.ok hs
  refine ⟨cr_nf hz i.1, ?_⟩
  have := nfW_len (ds := ds) i.1.len
  omega
/-- enough laps are enough -/
theorem coreN_more (hz : NZ ds) : ∀ {k j : Nat} {w : Walk}, Cr ds w → w.passes.length ≤ k → w.passes.length ≤ j → coreN ds k w = coreN ds j w
  | 0, j, w, h, hk, hj => by
    have hs : ¬ shutsB ds w = true := fun q => by
      have := shuts_len q
      omega
    cases j with
    | zero => rfl
    | succ j =>
      show w = if shutsB ds w = true then _ else w
      rw [if_neg hs]
  | k + 1, j, w, h, hk, hj => by
    show (if shutsB ds w = true then coreN ds k (nfW ds (inner ds w)) else w) = coreN ds j w
    by_cases hs : shutsB ds w = true
    · rw [if_pos hs]
      have n := cr_next hz h hs
      have l2 := shuts_len hs
      cases j with
      | zero => omega
      | succ j =>
        show _ = if shutsB ds w = true then coreN ds j (nfW ds (inner ds w)) else w
        rw [if_pos hs]
        exact coreN_more hz n.1 (by omega) (by omega)
    · rw [if_neg hs]
      cases j with
      | zero => rfl
      | succ j =>
        show w = if shutsB ds w = true then _ else w
        rw [if_neg hs]
/-- the core that is left of a walk -/
def coreOf (ds : List Door) (w : Walk) : Walk := coreN ds w.passes.length w
theorem coreOf_stop (hs : ¬ shutsB ds w = true) : coreOf ds w = w := by
  unfold coreOf
  cases w.passes.length with
  | zero => rfl
  | succ n =>
    show (if shutsB ds w = true then _ else w) = w
    rw [if_neg hs]
theorem coreOf_next (hz : NZ ds) (h : Cr ds w) (hs : shutsB ds w = true) : coreOf ds w = coreOf ds (nfW ds (inner ds w)) := by
  have n := cr_next hz h hs
  have l2 := shuts_len hs
  unfold coreOf
  obtain ⟨k, hk⟩ : ∃ k, w.passes.length = k + 1 := ⟨w.passes.length - 1, by omega⟩
  rw [hk]
  show (if shutsB ds w = true then coreN ds k (nfW ds (inner ds w)) else w) = _
  rw [if_pos hs]
  exact coreN_more hz n.1 (by omega) (Nat.le_refl _)
theorem coreOf_cr (hz : NZ ds) (h : Cr ds w) : Cr ds (coreOf ds w) ∧ (coreOf ds w).passes.length ≤ w.passes.length := by
  suffices H : ∀ (n : Nat) (w : Walk), w.passes.length ≤ n → Cr ds w → Cr ds (coreOf ds w) ∧ (coreOf ds w).passes.length ≤ w.passes.length from H _ w (Nat.le_refl _) h
  intro n
  induction n with
  | zero =>
    intro w hn h
    have hs : ¬ shutsB ds w = true := fun q => by
      have := shuts_len q
      omega
    rw [coreOf_stop hs]
    exact ⟨h, Nat.le_refl _⟩
  | succ n ih =>
    intro w hn h
    by_cases hs : shutsB ds w = true
    · have x := cr_next hz h hs
      rw [coreOf_next hz h hs]
      have y := ih _ (by omega) x.1
      exact ⟨y.1, by omega⟩
    · rw [coreOf_stop hs]
      exact ⟨h, Nat.le_refl _⟩
theorem coreW_eq : coreW ds w = coreOf ds (nfW ds w) := rfl
theorem coreW_cr (hz : NZ ds) (h : WOk ds w w.room) : Cr ds (coreW ds w) ∧ (coreW ds w).passes.length ≤ w.passes.length := by
  have a := coreOf_cr hz (cr_nf hz h)
  have b := nfW_len (ds := ds) h.len
  rw [coreW_eq]
  exact ⟨a.1, by omega⟩
/-- lead, core and lead backwards do what the walk does -/
structure Lead (ds : List Door) (w lead c : Walk) : Prop where
  room : lead.room = w.room
  ok : WOk ds lead c.room
  eqv : Eqv ds w.wd (lead.wd ++ c.wd ++ winv lead.wd)
theorem lead_start (hz : NZ ds) (h : WOk ds w w.room) : Lead ds w ⟨w.room, [0], []⟩ (nfW ds w) := by
  refine ⟨rfl, ⟨rfl, rfl⟩, ?_⟩
  show Eqv ds w.wd ([.x 0] ++ (nfW ds w).wd ++ [.x (-0)])
  rw [Int.neg_zero]
  have o := nfW_okw hz h.ok
  refine ((nfW_eqv hz h.ok).symm.trans ?_)
  refine Eqv.symm ((Eqv.app hz (ok_x.app o) (Eqv.post (w' := []) hz eqv_x0) eqv_x0).trans ?_)
  rw [List.append_nil]
  exact .rfl
theorem lead_next (hz : NZ ds) {w0 lead : Walk} (L : Lead ds w0 lead w) (h : Cr ds w) (hs : shutsB ds w = true) : Lead ds w0 (lead.join (firstP w)) (nfW ds (inner ds w)) := by
  have fo := first_ok h.ok hs
  have io := inner_ok h.ok hs
  have ie := inner_eqv hz h.ok hs
  have jo := join_ok L.ok fo rfl
  have jw := join_wd (r := w.room) hz L.ok fo.len
  refine ⟨L.room, jo, ?_⟩
  have of := fo.ok
  have ol := L.ok.ok
  have ow := h.ok.ok
  have oi := io.1.ok
  have on := nfW_okw hz oi
  -- w = f inner -f
  have e1 : Eqv ds w.wd ((firstP w).wd ++ (nfW ds (inner ds w)).wd ++ winv (firstP w).wd) := by
    refine Eqv.symm ((Eqv.post hz (Eqv.pre hz of ((nfW_eqv hz oi).trans ie))).trans ?_)
    have e : (firstP w).wd ++ (winv (firstP w).wd ++ w.wd ++ (firstP w).wd) ++ winv (firstP w).wd = ((firstP w).wd ++ winv (firstP w).wd) ++ (w.wd ++ ((firstP w).wd ++ winv (firstP w).wd)) := by simp
    rw [e]
    refine (Eqv.post (w' := []) hz (eqv_winv hz of)).trans ?_
    have := Eqv.pre hz ow (eqv_winv hz of)
    rw [List.append_nil] at this
    exact this
  refine L.eqv.trans ((Eqv.post hz (Eqv.pre hz ol e1)).trans ?_)
  have e2 : lead.wd ++ ((firstP w).wd ++ (nfW ds (inner ds w)).wd ++ winv (firstP w).wd) ++ winv lead.wd = (lead.wd ++ (firstP w).wd) ++ (nfW ds (inner ds w)).wd ++ winv (lead.wd ++ (firstP w).wd) := by
    rw [winv_app]
    simp
  rw [e2]
  have e3 : Eqv ds (winv (lead.wd ++ (firstP w).wd)) (winv (lead.join (firstP w)).wd) := by
    -- inverses of words that do the same do the same
    have oj := jo.ok
    have oo := ol.app of
    have z1 : Eqv ds (winv (lead.wd ++ (firstP w).wd) ++ ((lead.join (firstP w)).wd ++ winv (lead.join (firstP w)).wd)) (winv (lead.wd ++ (firstP w).wd)) := by
      have := Eqv.pre hz oo.winv (eqv_winv hz oj)
      rw [List.append_nil] at this
      exact this
    have z2 : Eqv ds (winv (lead.wd ++ (firstP w).wd) ++ ((lead.join (firstP w)).wd ++ winv (lead.join (firstP w)).wd)) (winv (lead.join (firstP w)).wd) := by
      rw [← List.append_assoc]
      refine Eqv.post (w' := []) hz ?_
      exact (Eqv.pre hz oo.winv jw).trans (eqv_winvL hz oo)
    exact z1.symm.trans z2
  exact Eqv.app hz ((ol.app of).app on) (Eqv.post hz jw.symm) e3
/-- inverses -/
theorem eqv_winv_of (hz : NZ ds) {a b : List G} (oa : Ok a) (ob : Ok b) (h : Eqv ds a b) : Eqv ds (winv a) (winv b) := by
  have z1 : Eqv ds (winv a ++ (b ++ winv b)) (winv a) := by
    have := Eqv.pre hz oa.winv (eqv_winv hz ob)
    rw [List.append_nil] at this
    exact this
  have z2 : Eqv ds (winv a ++ (b ++ winv b)) (winv b) := by
    rw [← List.append_assoc]
    refine Eqv.post (w' := []) hz ?_
    exact (Eqv.pre hz oa.winv h.symm).trans (eqv_winvL hz oa)
  exact z1.symm.trans z2
/-- the middle of a lead: m passes of the core, then x pulls -/
def midW (c : Walk) (m : Nat) (x : Int) : Walk := ⟨c.room, c.pulls.take m ++ [x], c.passes.take m⟩
theorem mid_ok (h : WOk ds c c.room) (hm : m ≤ c.passes.length) {x : Int} : WOk ds (midW c m x) (roomAt ds c m) := by
  have g := gone_ok h hm
  exact ⟨by have := g.len; simpa [midW, goneW] using this, g.path⟩
theorem mid_wd (hz : NZ ds) (h : WOk ds c c.room) (hm : m ≤ c.passes.length) {x : Int} : Eqv ds (midW c m x).wd ((goneW c m).wd ++ [.x x]) := by
  have hl : (c.pulls.take m).length = (c.passes.take m).length := by
    have := h.len
    simp
    omega
  have o : Ok (wdL (c.pulls.take m) (c.passes.take m)) := wdL_ok fun e he => (h.path.mem e (List.mem_of_mem_take he)).2
  have e1 := wdL_append (qs := [x]) (fs := []) hl
  have e2 := wdL_append (qs := [0]) (fs := []) hl
  rw [List.append_nil] at e1 e2
  show Eqv ds (wdL (c.pulls.take m ++ [x]) (c.passes.take m)) (wdL (c.pulls.take m ++ [0]) (c.passes.take m) ++ [.x x])
  rw [e1, e2, List.append_assoc]
  refine Eqv.pre hz o ?_
  refine Eqv.symm ((eqv_xx (a := 0) (b := x)).trans ?_)
  rw [Int.zero_add]
  exact .rfl
/-- THE LEAD: first, middle, second backwards lead other to one -/
theorem lead_joins (hz : NZ ds) {one other first second core mate : Walk} {x : Int} (L1 : Lead ds one first core) (L2 : Lead ds other second mate) (hc : WOk ds core core.room) (hmt : WOk ds mate mate.room) (ho : WOk ds one one.room) (ho2 : WOk ds other other.room)
    (hm : m < core.passes.length) (J : Joins ds (nfW ds (turnW ds core m)) mate x) (hl : core.passes.length = mate.passes.length) :
    let found := nfW ds ((first.join (midW core m x)).join (second.bk mate.room))
    WOk ds found other.room ∧ found.room = one.room ∧ Eqv ds (found.wd ++ other.wd ++ winv found.wd) one.wd := by
  intro found
  have hm' : m ≤ core.passes.length := by omega
  have okT := turn_ok hz hc hm'
  have okN := nfW_ok hz okT
  have mo := mid_ok (x := x) hc hm'
  have rm : roomAt ds core m = mate.room := by
    have := J.room
    rw [show (nfW ds (turnW ds core m)).room = (turnW ds core m).room from rfl, turn_room] at this
    exact this
  rw [rm] at mo
  have fo := L1.ok
  have jo := join_ok fo mo rfl
  have jw := join_wd (r := mate.room) hz fo mo.len
  have bo := bk_ok L2.ok
  rw [L2.room] at bo
  have jo2 := join_ok jo bo rfl
  have jw2 := join_wd (r := other.room) hz jo bo.len
  have fok := nfW_ok hz jo2
  refine ⟨fok, L1.room, ?_⟩
  have of := fo.ok
  have om := mo.ok
  have os := L2.ok.ok
  have oc := hc.ok
  have omt := hmt.ok
  -- found = first mid -second
  have F : Eqv ds found.wd (first.wd ++ (midW core m x).wd ++ winv second.wd) := by
    refine (nfW_eqv hz jo2.ok).trans (jw2.trans ?_)
    rw [bk_wd L2.ok]
    exact Eqv.post hz jw
  have oF : Ok (first.wd ++ (midW core m x).wd ++ winv second.wd) := (of.app om).app os.winv
  have oF' := nfW_okw hz jo2.ok
  have Fi := eqv_winv_of hz oF' oF F
  refine (Eqv.app hz (oF'.app ho2.ok) (Eqv.app hz oF' F L2.eqv) Fi).trans ?_
  rw [winv_app, winv_app, winv_winv]
  generalize hA : first.wd = A at *
  generalize hM : (midW core m x).wd = M at *
  generalize hS : second.wd = Sx at *
  have r1 : A ++ M ++ winv Sx ++ (Sx ++ mate.wd ++ winv Sx) ++ (Sx ++ (winv M ++ winv A)) = (A ++ M) ++ (winv Sx ++ (Sx ++ (mate.wd ++ (winv Sx ++ (Sx ++ (winv M ++ winv A)))))) := by simp
  rw [r1]
  refine (e_inL hz os (of.app om)).trans ?_
  refine (Eqv.pre hz (of.app om) (e_inL hz os omt)).trans ?_
  -- M mate -M = core
  have sdN : ∀ e, e ∈ (nfW ds (turnW ds core m)).passes → Sd e := fun e he => (okN.path.mem e he).2
  have nN : 0 < (nfW ds (turnW ds core m)).passes.length := by
    rw [J.passes]
    omega
  have E0 : Eqv ds (nfW ds (turnW ds core m)).wd ([.x x] ++ mate.wd ++ [.x (-x)]) := J.eqv hz okN.len hmt.len sdN nN
  have E1 : Eqv ds ([.x x] ++ mate.wd ++ [.x (-x)]) ((laterW ds core m).wd ++ (goneW core m).wd) := E0.symm.trans ((nfW_eqv hz okT.ok).trans (turn_wd hz hc hm'))
  have og := (gone_ok hc hm').ok
  have Mw := mid_wd (x := x) hz hc hm'
  rw [hM] at Mw
  have Mi := eqv_winv_of hz om (og.app ok_x) Mw
  rw [winv_app] at Mi
  have ol := (later_ok hc hm').ok
  have C : Eqv ds (M ++ (mate.wd ++ winv M)) core.wd := by
    refine (Eqv.app hz om Mw (Eqv.pre hz omt Mi)).trans ?_
    have r2 : (goneW core m).wd ++ [G.x x] ++ (mate.wd ++ (winv [G.x x] ++ winv (goneW core m).wd)) = (goneW core m).wd ++ (([G.x x] ++ mate.wd ++ [G.x (-x)]) ++ winv (goneW core m).wd) := by
      show (goneW core m).wd ++ [G.x x] ++ (mate.wd ++ ([G.x (-x)] ++ winv (goneW core m).wd)) = _
      simp
    rw [r2]
    refine (Eqv.pre hz og (Eqv.post hz E1)).trans ?_
    have r3 : (goneW core m).wd ++ ((laterW ds core m).wd ++ (goneW core m).wd ++ winv (goneW core m).wd) = ((goneW core m).wd ++ (laterW ds core m).wd) ++ ((goneW core m).wd ++ winv (goneW core m).wd) := by simp
    rw [r3]
    refine (Eqv.pre hz (og.app ol) (eqv_winv hz og)).trans ?_
    rw [List.append_nil]
    exact (split_wd hz hc hm').symm
  have r4 : A ++ M ++ (mate.wd ++ (winv M ++ winv A)) = A ++ ((M ++ (mate.wd ++ winv M)) ++ winv A) := by simp
  rw [r4]
  refine (Eqv.pre hz of (Eqv.post hz C)).trans ?_
  rw [← List.append_assoc]
  have l1 := L1.eqv.symm
  rw [hA] at l1
  exact l1
end
end PR

/-! M6: carrying and cancelling, one at a time. -/
namespace PR
section
variable {ds : List Door} {w v : Walk} {r t : Int} {n : Nat}
def carryW (ds : List Door) (w : Walk) (n : Nat) (t : Int) : Walk :=
  ⟨w.room, (w.pulls.set n (w.pulls.getD n 0 - lv ds (w.passes.getD n (0, 0)) * t)).set (n + 1) (w.pulls.getD (n + 1) 0 + ar ds (w.passes.getD n (0, 0)) * t), w.passes⟩
def cancelW (w : Walk) (n : Nat) : Walk := ⟨w.room, w.pulls.take n ++ [w.pulls.getD n 0 + w.pulls.getD (n + 2) 0] ++ w.pulls.drop (n + 3), w.passes.take n ++ w.passes.drop (n + 2)⟩
theorem act_headx {q c : Int} {ps : List Int} {es : List Pass} {s : S} : act ds (wdL ((q + c) :: ps) es) s = act ds (wdL (q :: ps) es) (s.1, s.2 + c) := by
  have e : s.2 + (q + c) = s.2 + c + q := by omega
  cases es with
  | nil =>
    show (s.1, s.2 + (q + c)) = (s.1, s.2 + c + q)
    rw [e]
  | cons f fs =>
    show act ds (wdL ps fs) (pas ds (s.1, s.2 + (q + c)) f) = act ds (wdL ps fs) (pas ds (s.1, s.2 + c + q) f)
    rw [e]
theorem carry_act (hz : NZ ds) : ∀ {n : Nat} {ps : List Int} {es : List Pass} {t : Int} {s : S}, n < es.length → ps.length = es.length + 1 →
    act ds (wdL ((ps.set n (ps.getD n 0 - lv ds (es.getD n (0, 0)) * t)).set (n + 1) (ps.getD (n + 1) 0 + ar ds (es.getD n (0, 0)) * t)) es) s = act ds (wdL ps es) s
  | 0, p :: q :: ps, e :: es, t, s, _, _ => by
    show act ds (wdL ((q + ar ds e * t) :: ps) es) (pas ds (s.1, s.2 + (p - lv ds e * t)) e) = act ds (wdL (q :: ps) es) (pas ds (s.1, s.2 + p) e)
    have e1 : s.2 + (p - lv ds e * t) = s.2 + p + lv ds e * (-t) := by
      rw [Int.mul_neg]
      omega
    rw [e1, pas_carry hz, act_headx]
    have e2 : ((pas ds (s.1, s.2 + p) e).1, (pas ds (s.1, s.2 + p) e).2 + ar ds e * -t + ar ds e * t) = pas ds (s.1, s.2 + p) e := by
      rw [Int.mul_neg]
      ext1
      · rfl
      · show (pas ds (s.1, s.2 + p) e).2 + -(ar ds e * t) + ar ds e * t = (pas ds (s.1, s.2 + p) e).2
        omega
    rw [e2]
  | n + 1, p :: ps, e :: es, t, s, h, hl => by
    show act ds (wdL ((ps.set n (ps.getD n 0 - lv ds (es.getD n (0, 0)) * t)).set (n + 1) (ps.getD (n + 1) 0 + ar ds (es.getD n (0, 0)) * t)) es) (pas ds (s.1, s.2 + p) e) = act ds (wdL ps es) (pas ds (s.1, s.2 + p) e)
    exact carry_act hz (by simpa using h) (by simpa using hl)
  | 0, [_], _ :: _, _, _, _, h => by simp at h
  | _, [], _ :: _, _, _, _, h => by simp at h
  | _, _, [], _, _, h, _ => by simp at h
theorem carry_eqv (hz : NZ ds) (hn : n < w.passes.length) (hl : w.pulls.length = w.passes.length + 1) : Eqv ds (carryW ds w n t).wd w.wd := fun s _ => carry_act hz hn hl
theorem carry_ok (h : WOk ds w r) : WOk ds (carryW ds w n t) r := ⟨by
  show ((w.pulls.set n _).set (n + 1) _).length = _
  rw [List.length_set, List.length_set]
  exact h.len, h.path⟩
theorem set_self {α : Type} : ∀ {xs : List α} {n : Nat} {d : α}, xs.set n (xs.getD n d) = xs
  | [], _, _ => rfl
  | x :: xs, 0, _ => rfl
  | x :: xs, n + 1, d => by
    show x :: xs.set n (xs.getD n d) = _
    rw [set_self]
theorem carry_zero : carryW ds w n 0 = w := by
  unfold carryW
  rw [Int.mul_zero, Int.mul_zero, Int.sub_zero, Int.add_zero, set_self, set_self]
theorem cancel_act (hz : NZ ds) : ∀ {n : Nat} {ps : List Int} {es : List Pass} {s : S}, n + 1 < es.length → ps.length = es.length + 1 → (∀ e, e ∈ es → Sd e) → es.getD (n + 1) (0, 0) = inv (es.getD n (0, 0)) → ps.getD (n + 1) 0 = 0 → Pl ds s.1 →
    act ds (wdL (ps.take n ++ [ps.getD n 0 + ps.getD (n + 2) 0] ++ ps.drop (n + 3)) (es.take n ++ es.drop (n + 2))) s = act ds (wdL ps es) s
  | 0, p :: z :: q :: ps, e :: f :: es, s, _, _, hs, he, hp, pl => by
    have he' : f = inv e := he
    have hp' : z = 0 := hp
    subst he' hp'
    show act ds (wdL ((p + q) :: ps) es) s = act ds (wdL (q :: ps) es) (pas ds ((pas ds (s.1, s.2 + p) e).1, (pas ds (s.1, s.2 + p) e).2 + 0) (inv e))
    have e1 : ((pas ds (s.1, s.2 + p) e).1, (pas ds (s.1, s.2 + p) e).2 + 0) = pas ds (s.1, s.2 + p) e := by
      rw [Int.add_zero]
    rw [e1, pas_inv hz (hs e List.mem_cons_self) pl]
    have e2 : p + q = q + p := by omega
    rw [e2, act_headx]
  | n + 1, p :: ps, e :: es, s, h, hl, hs, he, hp, pl => by
    show act ds (wdL (ps.take n ++ [ps.getD n 0 + ps.getD (n + 2) 0] ++ ps.drop (n + 3)) (es.take n ++ es.drop (n + 2))) (pas ds (s.1, s.2 + p) e) = act ds (wdL ps es) (pas ds (s.1, s.2 + p) e)
    exact cancel_act hz (by simpa using h) (by simpa using hl) (fun f hf => hs f (List.mem_cons_of_mem _ hf)) he hp (pas_pl hz (hs e List.mem_cons_self) pl)
  | 0, [], _, _, h, hl, _, _, _, _ => by simp at hl
  | 0, [_], _, _, h, hl, _, _, _, _ => by
    simp at hl
    rw [hl] at h
    simp at h
  | 0, [_, _], _, _, h, hl, _, _, _, _ => by
    simp at hl
    omega
  | 0, _ :: _ :: _ :: _, [], _, h, _, _, _, _, _ => by simp at h
  | 0, _ :: _ :: _ :: _, [_], _, h, _, _, _, _, _ => by simp at h
  | _ + 1, [], _, _, _, hl, _, _, _, _ => by simp at hl
  | _ + 1, _, [], _, h, _, _, _, _, _ => by simp at h
theorem cancel_eqv (hz : NZ ds) (h : WOk ds w r) (hn : n + 1 < w.passes.length) (he : w.passes.getD (n + 1) (0, 0) = inv (w.passes.getD n (0, 0))) (hp : w.pulls.getD (n + 1) 0 = 0) : Eqv ds (cancelW w n).wd w.wd := fun s pl =>
  cancel_act hz hn h.len (fun e he => (h.path.mem e he).2) he hp pl
theorem path_cancel : ∀ {n : Nat} {es : List Pass} {a b : Int}, Path ds a es b → n + 1 < es.length → es.getD (n + 1) (0, 0) = inv (es.getD n (0, 0)) → Path ds a (es.take n ++ es.drop (n + 2)) b
  | 0, e :: f :: es, a, b, h, _, he => by
    have he' : f = inv e := he
    subst he'
    obtain ⟨h1, h2, h3, h4, h5⟩ := h
    rw [dst_inv h1.2, h2] at h5
    exact h5
  | n + 1, e :: es, a, b, h, hl, he => ⟨h.1, h.2.1, path_cancel h.2.2 (by simpa using hl) he⟩
  | 0, [], _, _, _, h, _ => by simp at h
  | 0, [_], _, _, _, h, _ => by simp at h
  | _ + 1, [], _, _, _, h, _ => by simp at h
theorem cancel_ok (h : WOk ds w r) (hn : n + 1 < w.passes.length) (he : w.passes.getD (n + 1) (0, 0) = inv (w.passes.getD n (0, 0))) : WOk ds (cancelW w n) r ∧ (cancelW w n).passes.length + 2 = w.passes.length := by
  have hl := h.len
  have e2 : (cancelW w n).passes.length + 2 = w.passes.length := by
    show (w.passes.take n ++ w.passes.drop (n + 2)).length + 2 = _
    rw [List.length_append, List.length_take, List.length_drop]
    omega
  refine ⟨⟨?_, path_cancel h.path hn he⟩, e2⟩
  show (w.pulls.take n ++ [_] ++ w.pulls.drop (n + 3)).length = (cancelW w n).passes.length + 1
  rw [List.length_append, List.length_append, List.length_take, List.length_drop]
  simp only [List.length_cons, List.length_nil]
  omega
/-! ### what is plain already -/
theorem act_self : ∀ {es : List Pass} {ps : List Int} {st : Stk}, ps.length = es.length + 1 → (∀ n, n < es.length → 0 ≤ ps.getD n 0 ∧ ps.getD n 0 < (lv ds (es.getD n (0, 0))).natAbs) →
    (∀ n, n + 1 < es.length → es.getD (n + 1) (0, 0) = inv (es.getD n (0, 0)) → ps.getD (n + 1) 0 ≠ 0) → (∀ q e, st.head? = some q → es.head? = some e → e = inv q.2 → ps.headD 0 ≠ 0) →
    act ds (wdL ps es) (st, 0) = ((ps.zip es).reverse ++ st, ps.getLastD 0)
  | [], [p], st, _, _, _, _ => by
    show (st, 0 + p) = _
    rw [Int.zero_add]
    rfl
  | e :: es, p :: ps, st, hl, h1, h2, h3 => by
    have hp := h1 0 (by simp)
    have hp : 0 ≤ p ∧ p < (lv ds e).natAbs := hp
    have em := emod_of_range hp
    have ed : p / lv ds e = 0 := by
      have := Int.mul_ediv_add_emod p (lv ds e)
      rw [em] at this
      have h0 : lv ds e ≠ 0 := fun q => by
        rw [q] at hp
        have := hp.2
        simp at this
        omega
      have h4 : lv ds e * (p / lv ds e) = 0 := by omega
      exact (Int.mul_eq_zero.mp h4).resolve_left h0
    have pe : pas ds (st, 0 + p) e = ((p, e) :: st, 0) := by
      rw [Int.zero_add]
      cases st with
      | nil =>
        show ([(p % lv ds e, e)], p / lv ds e * ar ds e) = _
        rw [em, ed, Int.zero_mul]
      | cons q st =>
        obtain ⟨p', f⟩ := q
        show (if f = inv e ∧ p % lv ds e = 0 then _ else _) = _
        rw [if_neg, em, ed, Int.zero_mul]
        rintro ⟨q1, q2⟩
        rw [em] at q2
        exact h3 (p', f) e rfl rfl (by rw [q1, inv_inv]) q2
    show act ds (wdL ps es) (pas ds (st, 0 + p) e) = _
    rw [pe, act_self (es := es) (ps := ps) (st := (p, e) :: st) (by simpa using hl) (fun n hn => h1 (n + 1) (by simpa using hn)) (fun n hn => h2 (n + 1) (by simpa using hn)) ?_]
    · cases ps with
      | nil => simp at hl
      | cons q ps => simp
    · intro q f hq hf he
      cases hq
      cases es with
      | nil => cases hf
      | cons g es =>
        cases hf
        have := h2 0 (by simp) he
        cases ps with
        | nil => simp at hl
        | cons q ps => exact this
  | [], [], _, h, _, _, _ => by simp at h
  | [], _ :: _ :: _, _, h, _, _, _ => by simp at h
  | _ :: _, [], _, h, _, _, _ => by simp at h
theorem zip_parts : ∀ {ps : List Int} {es : List Pass}, ps.length = es.length + 1 → (ps.zip es).map Prod.fst ++ [ps.getLastD 0] = ps ∧ (ps.zip es).map Prod.snd = es
  | [p], [], _ => ⟨rfl, rfl⟩
  | p :: q :: ps, e :: es, h => by
    obtain ⟨h1, h2⟩ := zip_parts (ps := q :: ps) (es := es) (by simpa using h)
    refine ⟨?_, ?_⟩
    · show p :: (((q :: ps).zip es).map Prod.fst ++ [(p :: q :: ps).getLastD 0]) = _
      have : (p :: q :: ps).getLastD 0 = (q :: ps).getLastD 0 := by simp
      rw [this, h1]
    · show e :: ((q :: ps).zip es).map Prod.snd = _
      rw [h2]
  | [], _, h => by simp at h
  | [_], _ :: _, h => by simp at h
  | _ :: _ :: _, [], h => by simp at h
theorem nf_self (hl : w.pulls.length = w.passes.length + 1) (h1 : ∀ n, n < w.passes.length → 0 ≤ w.pulls.getD n 0 ∧ w.pulls.getD n 0 < (lv ds (w.passes.getD n (0, 0))).natAbs)
    (h2 : ∀ n, n + 1 < w.passes.length → w.passes.getD (n + 1) (0, 0) = inv (w.passes.getD n (0, 0)) → w.pulls.getD (n + 1) 0 ≠ 0) : nfW ds w = w := by
  unfold nfW Walk.wd
  rw [show act ds (wdL w.pulls w.passes) s0 = _ from act_self (st := []) hl h1 h2 (fun q e hq => by simp at hq)]
  obtain ⟨room, ps, es⟩ := w
  simp only at hl
  show Walk.mk room ((((ps.zip es).reverse ++ []).map Prod.fst).reverse ++ [ps.getLastD 0]) (((ps.zip es).reverse ++ []).map Prod.snd).reverse = _
  rw [List.append_nil, List.map_reverse, List.map_reverse, List.reverse_reverse, List.reverse_reverse]
  obtain ⟨e1, e2⟩ := zip_parts hl
  rw [e1, e2]
end
end PR

/-! M7: the program's shortening and fitting gives the plain form. -/
namespace PR
section
variable {ds : List Door} {w w0 w1 v : Walk} {r t : Int} {n i : Nat}
theorem getD_set {α : Type} {xs : List α} {i n : Nat} {a d : α} : (xs.set i a).getD n d = if i = n ∧ n < xs.length then a else xs.getD n d := by
  rw [List.getD_eq_getElem?_getD, List.getD_eq_getElem?_getD, List.getElem?_set]
  by_cases h : i = n
  · subst h
    by_cases h2 : i < xs.length
    · simp [h2]
    · simp [h2]
  · simp [h]
theorem carry_getD (hl : w.pulls.length = w.passes.length + 1) (hi : i < w.passes.length) : (carryW ds w i t).pulls.getD n 0 =
    if n = i then w.pulls.getD i 0 - lv ds (w.passes.getD i (0, 0)) * t else if n = i + 1 then w.pulls.getD (i + 1) 0 + ar ds (w.passes.getD i (0, 0)) * t else w.pulls.getD n 0 := by
  show ((w.pulls.set i _).set (i + 1) _).getD n 0 = _
  rw [getD_set, getD_set, List.length_set]
  by_cases h1 : n = i
  · subst h1
    rw [if_neg (by omega), if_pos ⟨rfl, by omega⟩, if_pos rfl]
  · by_cases h2 : n = i + 1
    · subst h2
      rw [if_pos ⟨rfl, by omega⟩, if_neg h1, if_pos rfl]
    · rw [if_neg (by omega), if_neg (by omega), if_neg h1, if_neg h2]
structure Sh (ds : List Door) (w0 w : Walk) (r : Int) : Prop where
  ok : WOk ds w r
  ev : Eqv ds w.wd w0.wd
  rm : w.room = w0.room
  le : w.passes.length ≤ w0.passes.length
theorem sh_start (h : WOk ds w0 r) : Sh ds w0 w0 r := ⟨h, .rfl, rfl, Nat.le_refl _⟩
theorem sh_step (hz : NZ ds) (h : Sh ds w0 w r) (hn : n + 1 < w.passes.length) (ht : w.passes.getD (n + 1) (0, 0) = inv (w.passes.getD n (0, 0))) (hm : w.pulls.getD (n + 1) 0 % ar ds (w.passes.getD n (0, 0)) = 0) :
    Sh ds w0 (cancelW (carryW ds w n (0 - w.pulls.getD (n + 1) 0 / ar ds (w.passes.getD n (0, 0)))) n) r ∧ (cancelW (carryW ds w n (0 - w.pulls.getD (n + 1) 0 / ar ds (w.passes.getD n (0, 0)))) n).passes.length + 2 = w.passes.length := by
  have k1 := carry_ok (n := n) (t := 0 - w.pulls.getD (n + 1) 0 / ar ds (w.passes.getD n (0, 0))) h.ok
  have k2 := carry_eqv (w := w) (n := n) (t := 0 - w.pulls.getD (n + 1) 0 / ar ds (w.passes.getD n (0, 0))) hz (by omega) h.ok.len
  have k3 := cancel_ok k1 hn ht
  have k4 : (carryW ds w n (0 - w.pulls.getD (n + 1) 0 / ar ds (w.passes.getD n (0, 0)))).pulls.getD (n + 1) 0 = 0 := by
    rw [carry_getD h.ok.len (by omega), if_neg (by omega), if_pos rfl, Int.mul_sub, Int.mul_zero, mul_cancel hm]
    omega
  have k5 := cancel_eqv hz k1 hn ht k4
  refine ⟨⟨k3.1, (k5.trans k2).trans h.ev, h.rm, ?_⟩, k3.2⟩
  have := k3.2
  have e : (carryW ds w n (0 - w.pulls.getD (n + 1) 0 / ar ds (w.passes.getD n (0, 0)))).passes.length = w.passes.length := rfl
  have := h.le
  omega
structure Fit (ds : List Door) (w1 w : Walk) (i : Nat) : Prop where
  ps : w.passes = w1.passes
  ln : w.pulls.length = w.passes.length + 1
  ev : Eqv ds w.wd w1.wd
  rm : w.room = w1.room
  rg : ∀ n, n < i → n < w.passes.length → 0 ≤ w.pulls.getD n 0 ∧ w.pulls.getD n 0 < (lv ds (w.passes.getD n (0, 0))).natAbs
  ns : ∀ n, n + 1 < w.passes.length → w.passes.getD (n + 1) (0, 0) = inv (w.passes.getD n (0, 0)) → ¬ w.pulls.getD (n + 1) 0 % ar ds (w.passes.getD n (0, 0)) = 0
theorem fit_start (h : w1.pulls.length = w1.passes.length + 1) (hn : ∀ n, n + 1 < w1.passes.length → w1.passes.getD (n + 1) (0, 0) = inv (w1.passes.getD n (0, 0)) → ¬ w1.pulls.getD (n + 1) 0 % ar ds (w1.passes.getD n (0, 0)) = 0) : Fit ds w1 w1 0 :=
  ⟨rfl, h, .rfl, rfl, fun n h => by omega, hn⟩
theorem fit_step (hz : NZ ds) (sd : ∀ e, e ∈ w.passes → Sd e) (h : Fit ds w1 w i) (hi : i < w.passes.length) : Fit ds w1 (carryW ds w i (w.pulls.getD i 0 / lv ds (w.passes.getD i (0, 0)))) (i + 1) := by
  have hln := h.ln
  have e0 : w.pulls.getD i 0 - lv ds (w.passes.getD i (0, 0)) * (w.pulls.getD i 0 / lv ds (w.passes.getD i (0, 0))) = w.pulls.getD i 0 % lv ds (w.passes.getD i (0, 0)) := by
    have := Int.mul_ediv_add_emod (w.pulls.getD i 0) (lv ds (w.passes.getD i (0, 0)))
    omega
  refine ⟨h.ps, ?_, (carry_eqv hz hi hln).trans h.ev, h.rm, fun n hn hn2 => ?_, fun n hn ht => ?_⟩
  · show ((w.pulls.set _ _).set _ _).length = _
    rw [List.length_set, List.length_set]
    exact hln
  · rw [carry_getD hln hi]
    show 0 ≤ _ ∧ _ < ((lv ds (w.passes.getD n (0, 0))).natAbs : Int)
    by_cases e : n = i
    · subst e
      rw [if_pos rfl, e0]
      exact emod_rng (lv_ne hz _)
    · rw [if_neg e, if_neg (by omega)]
      exact h.rg n (by omega) hn2
  · rw [carry_getD hln hi]
    show ¬ _ % ar ds (w.passes.getD n (0, 0)) = 0
    have hn' : n + 1 < w.passes.length := hn
    have ht' : w.passes.getD (n + 1) (0, 0) = inv (w.passes.getD n (0, 0)) := ht
    have h0 := h.ns n hn' ht'
    by_cases e : n + 1 = i
    · subst e
      rw [if_pos rfl, e0, ht']
      have hs : Sd (w.passes.getD n (0, 0)) := by
        refine sd _ ?_
        rw [List.getD_eq_getElem?_getD, List.getElem?_eq_getElem (by omega)]
        exact List.getElem_mem _
      rw [lv_inv hs, Int.emod_emod_of_dvd _ (Int.dvd_refl _)]
      exact h0
    · rw [if_neg e]
      by_cases e2 : n + 1 = i + 1
      · have e3 : n = i := by omega
        subst e3
        rw [if_pos rfl, mul_mod_add]
        exact h0
      · rw [if_neg e2]
        exact h0
theorem fit_end (h : Fit ds w1 w i) (hi : w.passes.length ≤ i) : nfW ds w1 = w := by
  rw [← nfW_eq h.ev h.rm]
  refine nf_self h.ln (fun n hn => h.rg n (by omega) hn) fun n hn ht h0 => h.ns n hn ht ?_
  rw [h0, Int.zero_emod]
end
end PR

/-! M8: rows: the pulls that a chain of carryings takes. -/
namespace PR
structure RowI (ds : List Door) (es : List Pass) (fx sl : List Int) (i : Nat) (first step moved more : Int) : Prop where
  pos : 0 < step
  bd : (more.natAbs : Int) + step ≤ 12 ^ i
  sol : ∀ t, chain ds es (lin fx sl t) 0 = some 0 ↔ ∃ k, t = first + step * k ∧ chain ds (es.drop i) (lin (fx.drop i) (sl.drop i) t) (moved + more * k) = some 0
section
variable {ds : List Door} {es : List Pass} {fx sl : List Int} {i : Nat} {first step moved more : Int}
theorem row_start : RowI ds es fx sl 0 0 1 0 0 := by
  refine ⟨by decide, by decide, fun t => ?_⟩
  constructor
  · intro h
    exact ⟨t, by omega, by simpa using h⟩
  · rintro ⟨k, h1, h2⟩
    simpa using h2
theorem dropc {α : Type} {xs : List α} {i : Nat} (h : i < xs.length) (d : α) : xs.drop i = xs.getD i d :: xs.drop (i + 1) := by
  rw [List.drop_eq_getElem_cons h, List.getD_eq_getElem?_getD, List.getElem?_eq_getElem h]
  rfl
theorem lin_drop {t : Int} (h1 : i < fx.length) (h2 : i < sl.length) : lin (fx.drop i) (sl.drop i) t = (fx.getD i 0 + sl.getD i 0 * t) :: lin (fx.drop (i + 1)) (sl.drop (i + 1)) t := by
  rw [dropc h1 0, dropc h2 0]
  rfl
/-- what the turn asks -/
theorem row_at (h : RowI ds es fx sl i first step moved more) (he : i < es.length) (hf : fx.length = es.length + 1) (hs : sl.length = es.length + 1) (t : Int) : chain ds es (lin fx sl t) 0 = some 0 ↔
    ∃ k, t = first + step * k ∧ ((moved + fx.getD i 0 + sl.getD i 0 * first) + (more + sl.getD i 0 * step) * k) % lv ds (es.getD i (0, 0)) = 0 ∧
      chain ds (es.drop (i + 1)) (lin (fx.drop (i + 1)) (sl.drop (i + 1)) t) (((moved + fx.getD i 0 + sl.getD i 0 * first) + (more + sl.getD i 0 * step) * k) / lv ds (es.getD i (0, 0)) * ar ds (es.getD i (0, 0))) = some 0 := by
  rw [h.sol t]
  constructor
  all_goals
    rintro ⟨k, hk, h2⟩
    refine ⟨k, hk, ?_⟩
    have e : moved + more * k + (fx.getD i 0 + sl.getD i 0 * t) = (moved + fx.getD i 0 + sl.getD i 0 * first) + (more + sl.getD i 0 * step) * k := by
      rw [hk, Int.mul_add, Int.add_mul, Int.mul_assoc]
      omega
  · rw [dropc he (0, 0), lin_drop (by omega) (by omega)] at h2
    unfold chain at h2
    rw [e] at h2
    split at h2
    · rename_i h3
      exact ⟨h3, h2⟩
    · cases h2
  · rw [dropc he (0, 0), lin_drop (by omega) (by omega)]
    unfold chain
    rw [e, if_pos h2.1]
    exact h2.2
theorem row_none (h : RowI ds es fx sl i first step moved more) (he : i < es.length) (hf : fx.length = es.length + 1) (hs : sl.length = es.length + 1)
    (hn : ∀ k, ¬ ((moved + fx.getD i 0 + sl.getD i 0 * first) + (more + sl.getD i 0 * step) * k) % lv ds (es.getD i (0, 0)) = 0) (t : Int) : ¬ chain ds es (lin fx sl t) 0 = some 0 := fun q => by
  obtain ⟨k, _, h2, _⟩ := (row_at h he hf hs t).mp q
  exact hn k h2
theorem div_bd {a b : Int} (hb : b ≠ 0) (h : a % b = 0) : (a / b).natAbs * b.natAbs = a.natAbs := by
  rw [← Int.natAbs_mul, Int.mul_comm, mul_cancel h]
theorem row_next (hz : NZ ds) (hb : (ar ds (es.getD i (0, 0))).natAbs ≤ 6) (h : RowI ds es fx sl i first step moved more) (he : i < es.length) (hf : fx.length = es.length + 1) (hs : sl.length = es.length + 1) (h1 : (sl.getD i 0).natAbs ≤ 1) {chosen size now gain : Int}
    (en : now = moved + fx.getD i 0 + sl.getD i 0 * first) (eg : gain = more + sl.getD i 0 * step) (hs0 : 0 < size) (hs6 : size ≤ 6) (hsl : size.natAbs ≤ (lv ds (es.getD i (0, 0))).natAbs)
    (hk : ∀ k, (now + gain * k) % lv ds (es.getD i (0, 0)) = 0 ↔ ∃ j, k = chosen + size * j) :
    RowI ds es fx sl (i + 1) (first + step * chosen) (step * size) ((now + gain * chosen) / lv ds (es.getD i (0, 0)) * ar ds (es.getD i (0, 0))) (gain * size / lv ds (es.getD i (0, 0)) * ar ds (es.getD i (0, 0))) := by
  have k0 := (hk chosen).mpr ⟨0, by omega⟩
  have k1 := (hk (chosen + size)).mpr ⟨1, by omega⟩
  have hgs : gain * size % lv ds (es.getD i (0, 0)) = 0 := by
    have e : now + gain * (chosen + size) = now + gain * chosen + gain * size := by
      rw [Int.mul_add]
      omega
    rw [e] at k1
    have d1 := Int.dvd_of_emod_eq_zero k0
    have d2 := Int.dvd_of_emod_eq_zero k1
    exact Int.emod_eq_zero_of_dvd ((Int.dvd_add_right d1).mp d2)
  have hl := lv_ne hz (es.getD i (0, 0))
  refine ⟨Int.mul_pos h.pos hs0, ?_, fun t => ?_⟩
  · have b1 : (gain.natAbs : Int) ≤ more.natAbs + step := by
      have e1 : gain.natAbs ≤ more.natAbs + (sl.getD i 0 * step).natAbs := by
        rw [eg]
        exact Int.natAbs_add_le _ _
      rw [Int.natAbs_mul] at e1
      have hp := h.pos
      have e2 : (sl.getD i 0).natAbs * step.natAbs ≤ 1 * step.natAbs := Nat.mul_le_mul_right _ h1
      omega
    have b2 : (gain * size / lv ds (es.getD i (0, 0))).natAbs ≤ gain.natAbs := by
      have e1 := div_bd hl hgs
      rw [Int.natAbs_mul] at e1
      have e2 : gain.natAbs * size.natAbs ≤ gain.natAbs * (lv ds (es.getD i (0, 0))).natAbs := Nat.mul_le_mul_left _ hsl
      rw [← e1] at e2
      exact Nat.le_of_mul_le_mul_right e2 (by omega)
    have b3 : (gain * size / lv ds (es.getD i (0, 0)) * ar ds (es.getD i (0, 0))).natAbs ≤ gain.natAbs * 6 := by
      rw [Int.natAbs_mul]
      exact Nat.mul_le_mul b2 hb
    have b4 : step * size ≤ step * 6 := Int.mul_le_mul_of_nonneg_left hs6 (Int.le_of_lt h.pos)
    have b5 := h.bd
    have b6 : (12 : Int) ^ (i + 1) = 12 ^ i * 12 := Int.pow_succ ..
    rw [b6]
    omega
  · rw [row_at h he hf hs t, ← en, ← eg]
    constructor
    · rintro ⟨k, h1, h2, h3⟩
      obtain ⟨j, rfl⟩ := (hk k).mp h2
      refine ⟨j, ?_, ?_⟩
      · rw [h1, Int.mul_add, Int.mul_assoc]
        omega
      · have e : (now + gain * chosen) / lv ds (es.getD i (0, 0)) * ar ds (es.getD i (0, 0)) + gain * size / lv ds (es.getD i (0, 0)) * ar ds (es.getD i (0, 0)) * j = (now + gain * (chosen + size * j)) / lv ds (es.getD i (0, 0)) * ar ds (es.getD i (0, 0)) := by
          have e1 : now + gain * (chosen + size * j) = (now + gain * chosen) + lv ds (es.getD i (0, 0)) * (gain * size / lv ds (es.getD i (0, 0)) * j) := by
            rw [← Int.mul_assoc, mul_cancel hgs, Int.mul_add, ← Int.mul_assoc]
            omega
          rw [e1, mul_div_add hl, Int.add_mul, Int.mul_assoc, Int.mul_assoc, Int.mul_comm j]
        rw [e]
        exact h3
    · rintro ⟨j, h1, h3⟩
      have h2 := (hk (chosen + size * j)).mpr ⟨j, rfl⟩
      refine ⟨chosen + size * j, ?_, h2, ?_⟩
      · rw [h1, Int.mul_add, Int.mul_assoc]
        omega
      · have e : (now + gain * chosen) / lv ds (es.getD i (0, 0)) * ar ds (es.getD i (0, 0)) + gain * size / lv ds (es.getD i (0, 0)) * ar ds (es.getD i (0, 0)) * j = (now + gain * (chosen + size * j)) / lv ds (es.getD i (0, 0)) * ar ds (es.getD i (0, 0)) := by
          have e1 : now + gain * (chosen + size * j) = (now + gain * chosen) + lv ds (es.getD i (0, 0)) * (gain * size / lv ds (es.getD i (0, 0)) * j) := by
            rw [← Int.mul_assoc, mul_cancel hgs, Int.mul_add, ← Int.mul_assoc]
            omega
          rw [e1, mul_div_add hl, Int.add_mul, Int.mul_assoc, Int.mul_assoc, Int.mul_comm j]
        rw [← e]
        exact h3
/-- at the end -/
theorem row_last (h : RowI ds es fx sl es.length first step moved more) (hf : fx.length = es.length + 1) (hs : sl.length = es.length + 1) (t : Int) : chain ds es (lin fx sl t) 0 = some 0 ↔
    ∃ k, t = first + step * k ∧ (moved + fx.getD es.length 0 + sl.getD es.length 0 * first) + (more + sl.getD es.length 0 * step) * k = 0 := by
  rw [h.sol t]
  have e0 : es.drop es.length = [] := List.drop_eq_nil_of_le (Nat.le_refl _)
  have e1 : fx.drop (es.length + 1) = [] := List.drop_eq_nil_of_le (by omega)
  constructor
  all_goals
    rintro ⟨k, hk, h2⟩
    refine ⟨k, hk, ?_⟩
    have e : moved + more * k + (fx.getD es.length 0 + sl.getD es.length 0 * t) = (moved + fx.getD es.length 0 + sl.getD es.length 0 * first) + (more + sl.getD es.length 0 * step) * k := by
      rw [hk, Int.mul_add, Int.add_mul, Int.mul_assoc]
      omega
  · rw [e0, lin_drop (by omega) (by omega), e1] at h2
    have h3 : some (moved + more * k + (fx.getD es.length 0 + sl.getD es.length 0 * t)) = some 0 := h2
    rw [e] at h3
    exact Option.some.inj h3
  · rw [e0, lin_drop (by omega) (by omega), e1]
    show some (moved + more * k + (fx.getD es.length 0 + sl.getD es.length 0 * t)) = some 0
    rw [e, h2]
end
/-! ### solving now + gain * k = 0 mod a small number -/
theorem solve_set {now gain l chosen size : Int} (hl : l ≠ 0) (hs : 0 < size) (h0 : (now + gain * chosen) % l = 0) (hg : gain * size % l = 0) (hm : ∀ j, 0 < j → j < size → ¬ gain * j % l = 0) (k : Int) : (now + gain * k) % l = 0 ↔ ∃ j, k = chosen + size * j := by
  have e : now + gain * k = (now + gain * chosen) + gain * (k - chosen) := by
    rw [Int.mul_sub]
    omega
  have d0 := Int.dvd_of_emod_eq_zero h0
  have dg := Int.dvd_of_emod_eq_zero hg
  constructor
  · intro h
    rw [e] at h
    have d1 := (Int.dvd_add_right d0).mp (Int.dvd_of_emod_eq_zero h)
    refine ⟨(k - chosen) / size, ?_⟩
    have hr : (k - chosen) % size = 0 := by
      by_cases hz : (k - chosen) % size = 0
      · exact hz
      · exfalso
        have r0 := Int.emod_nonneg (k - chosen) (show size ≠ 0 by omega)
        have r1 := Int.emod_lt_of_pos (k - chosen) hs
        refine hm ((k - chosen) % size) (by omega) r1 (Int.emod_eq_zero_of_dvd ?_)
        have e2 : gain * (k - chosen) = gain * size * ((k - chosen) / size) + gain * ((k - chosen) % size) := by
          rw [Int.mul_assoc, ← Int.mul_add, Int.mul_ediv_add_emod]
        rw [e2] at d1
        exact (Int.dvd_add_right (Int.dvd_trans dg (Int.dvd_mul_right _ _))).mp d1
    have := mul_cancel hr
    omega
  · rintro ⟨j, rfl⟩
    rw [e]
    refine Int.emod_eq_zero_of_dvd (Int.dvd_add d0 ?_)
    have e3 : chosen + size * j - chosen = size * j := by omega
    rw [e3, ← Int.mul_assoc]
    exact Int.dvd_trans dg (Int.dvd_mul_right _ _)
end PR

/-! M9: the inverse modulo a small number. -/
namespace PR
structure Eu (f m one other found turned : Int) : Prop where
  o0 : 0 ≤ one
  o1 : one < other
  om : other ≤ m
  gc : Int.gcd one other = 1
  c1 : m ∣ found * f - one
  c2 : m ∣ turned * f - other
  bd : ∃ s a b : Int, (s = 1 ∨ s = -1) ∧ 0 ≤ a ∧ 0 ≤ b ∧ found = s * a ∧ turned = -(s * b) ∧ a * other + b * one = m
  big : 1 < other ∨ m = 1
theorem gcd_mod (a m : Int) : Int.gcd (a % m) m = Int.gcd a m := by
  have e : a = a % m + a / m * m := by
    have := Int.mul_ediv_add_emod a m
    rw [Int.mul_comm] at this
    omega
  have h := Int.gcd_add_mul_right_right m (a % m) (a / m)
  rw [← e] at h
  rw [Int.gcd_comm, ← h, Int.gcd_comm]
theorem eu_start {f m : Int} (hm : 0 < m) (hg : Int.gcd f m = 1) : Eu f m (f % m) m 1 0 := by
  refine ⟨Int.emod_nonneg _ (by omega), Int.emod_lt_of_pos _ hm, Int.le_refl _, ?_, ?_, ?_, ⟨1, 1, 0, .inl rfl, by decide, by decide, rfl, rfl, by omega⟩, by omega⟩
  · rw [gcd_mod]
    exact hg
  · rw [Int.one_mul]
    have := Int.mul_ediv_add_emod f m
    exact ⟨f / m, by omega⟩
  · rw [Int.zero_mul]
    exact ⟨-1, by omega⟩
theorem eu_step {f m one other found turned : Int} (h : Eu f m one other found turned) (h1 : 1 < one) : Eu f m (other - other / one * one) one (turned - other / one * found) found := by
  have hd := Int.mul_ediv_add_emod other one
  rw [Int.mul_comm] at hd
  have e1 : other - other / one * one = other % one := by omega
  obtain ⟨s, a, b, hs, ha, hb, hf, ht, hm⟩ := h.bd
  have hp : 0 ≤ other / one := Int.ediv_nonneg (by have := h.o1; omega) h.o0
  refine ⟨?_, ?_, ?_, ?_, ?_, h.c1, ⟨-s, b + other / one * a, a, ?_, ?_, ha, ?_, ?_, ?_⟩, .inl h1⟩
  · rw [e1]
    exact Int.emod_nonneg _ (by omega)
  · rw [e1]
    exact Int.emod_lt_of_pos _ (by omega)
  · have := h.o1
    have := h.om
    omega
  · rw [e1]
    rw [gcd_mod, Int.gcd_comm]
    exact h.gc
  · have e2 : (turned - other / one * found) * f - (other - other / one * one) = (turned * f - other) - other / one * (found * f - one) := by
      rw [Int.sub_mul, Int.mul_sub, Int.mul_assoc]
      omega
    rw [e2]
    exact Int.dvd_sub h.c2 (Int.dvd_trans h.c1 (Int.dvd_mul_left _ _))
  · omega
  · exact Int.add_nonneg hb (Int.mul_nonneg hp ha)
  · rw [hf, ht, Int.mul_add, Int.neg_mul, Int.neg_mul, ← Int.mul_assoc, ← Int.mul_assoc, Int.mul_comm (other / one) s]
    omega
  · rw [hf, Int.neg_mul, Int.neg_neg]
  · rw [e1, Int.add_mul]
    have : other / one * a * one + a * (other % one) = a * other := by
      rw [Int.mul_comm (other / one) a, Int.mul_assoc, ← Int.mul_add, hd]
    omega
theorem eu_found {f m one other found turned : Int} (h : Eu f m one other found turned) : found.natAbs ≤ m.natAbs := by
  obtain ⟨s, a, b, hs, ha, hb, hf, ht, hm⟩ := h.bd
  have h1 := h.o1
  have h0 := h.o0
  have e1 : a ≤ a * other := by
    have := Int.mul_le_mul_of_nonneg_left (show (1 : Int) ≤ other by omega) ha
    omega
  have e2 : 0 ≤ b * one := Int.mul_nonneg hb h0
  rcases hs with rfl | rfl <;> omega
theorem eu_end {f m one other found turned r : Int} (h : Eu f m one other found turned) (h1 : ¬ 1 < one) (hm : 1 < m) : m ∣ f * ((found * r) % m) - r := by
  have ho : one = 1 := by
    have h0 := h.o0
    have hb : 1 < other := by
      rcases h.big with h | h
      · exact h
      · omega
    have hg := h.gc
    by_cases hz : one = 0
    · rw [hz, Int.gcd_zero_left] at hg
      omega
    · omega
  have c1 := h.c1
  rw [ho] at c1
  have e := Int.mul_ediv_add_emod (found * r) m
  have e2 : f * ((found * r) % m) - r = (found * f - 1) * r - m * (f * (found * r / m)) := by
    have e3 : (found * r) % m = found * r - m * (found * r / m) := by omega
    rw [e3, Int.mul_sub, Int.sub_mul, Int.one_mul]
    have e4 : f * (found * r) = found * f * r := by rw [← Int.mul_assoc, Int.mul_comm f found]
    have e5 : f * (m * (found * r / m)) = m * (f * (found * r / m)) := by rw [← Int.mul_assoc, Int.mul_comm f m, Int.mul_assoc]
    omega
  rw [e2]
  exact Int.dvd_sub (Int.dvd_trans c1 (Int.dvd_mul_right _ _)) (Int.dvd_mul_right _ _)
/-- the whole numbers j for which l divides gain * j -/
theorem gcd_size {gain l : Int} (hl : l ≠ 0) : let size : Int := ((l.natAbs / Nat.gcd gain.natAbs l.natAbs : Nat) : Int)
    0 < size ∧ size.natAbs ≤ l.natAbs ∧ gain * size % l = 0 ∧ ∀ j, 0 < j → j < size → ¬ gain * j % l = 0 := by
  intro size
  have hl' : 0 < l.natAbs := by omega
  have hg : 0 < Nat.gcd gain.natAbs l.natAbs := Nat.gcd_pos_of_pos_right _ hl'
  have hd1 : Nat.gcd gain.natAbs l.natAbs ∣ l.natAbs := Nat.gcd_dvd_right _ _
  have hd2 : Nat.gcd gain.natAbs l.natAbs ∣ gain.natAbs := Nat.gcd_dvd_left _ _
  obtain ⟨q, hq⟩ := hd1
  obtain ⟨p, hp⟩ := hd2
  have hsz : size = (q : Int) := by
    show ((l.natAbs / Nat.gcd gain.natAbs l.natAbs : Nat) : Int) = _
    have : l.natAbs / Nat.gcd gain.natAbs l.natAbs = q := by
      have h2 := Nat.mul_div_cancel_left q hg
      rw [← hq] at h2
      exact h2
    rw [this]
  have hqp : 0 < q := by
    rcases Nat.eq_zero_or_pos q with h | h
    · rw [h, Nat.mul_zero] at hq
      omega
    · exact h
  rw [hsz]
  refine ⟨by omega, ?_, ?_, ?_⟩
  · have : q ≤ Nat.gcd gain.natAbs l.natAbs * q := Nat.le_mul_of_pos_left _ hg
    omega
  · refine Int.emod_eq_zero_of_dvd (Int.natAbs_dvd_natAbs.mp ?_)
    rw [Int.natAbs_mul]
    refine ⟨p, ?_⟩
    show gain.natAbs * q = l.natAbs * p
    have e1 : gain.natAbs * q = Nat.gcd gain.natAbs l.natAbs * p * q := by rw [← hp]
    have e2 : l.natAbs * p = Nat.gcd gain.natAbs l.natAbs * q * p := by rw [← hq]
    rw [e1, e2, Nat.mul_assoc, Nat.mul_assoc, Nat.mul_comm p q]
  · intro j hj0 hj h
    have hdv := Int.natAbs_dvd_natAbs.mpr (Int.dvd_of_emod_eq_zero h)
    rw [Int.natAbs_mul] at hdv
    have cop : Nat.Coprime p q := by
      have := Nat.coprime_div_gcd_div_gcd (m := gain.natAbs) (n := l.natAbs) hg
      have e1 : gain.natAbs / Nat.gcd gain.natAbs l.natAbs = p := by
        have h2 := Nat.mul_div_cancel_left p hg
        rw [← hp] at h2
        exact h2
      have e2 : l.natAbs / Nat.gcd gain.natAbs l.natAbs = q := by
        have h2 := Nat.mul_div_cancel_left q hg
        rw [← hq] at h2
        exact h2
      rw [e1, e2] at this
      exact this
    have h3 : Nat.gcd gain.natAbs l.natAbs * q ∣ Nat.gcd gain.natAbs l.natAbs * (p * j.natAbs) := by
      rw [← hq, ← Nat.mul_assoc, ← hp]
      exact hdv
    have h4 : q ∣ p * j.natAbs := Nat.dvd_of_mul_dvd_mul_left hg h3
    have h5 : q ∣ j.natAbs := (Nat.Coprime.symm cop).dvd_of_dvd_mul_left h4
    have h6 := Nat.le_of_dvd (by omega) h5
    omega
end PR

/-! M10: what is led. -/
namespace PR
section
variable {ds : List Door} {a b c : Walk} {m n : Int}
theorem join_len (ha : a.pulls.length = a.passes.length + 1) (hb : b.pulls.length = b.passes.length + 1) : (a.join b).pulls.length = (a.join b).passes.length + 1 := by
  have := joinP_len (ne_nil_of ha) (ne_nil_of hb)
  show (joinP a.pulls b.pulls).length = (a.passes ++ b.passes).length + 1
  rw [List.length_append]
  omega
/-- a, b, a back -/
def ledW (a b : Walk) (m : Int) : Walk := (a.join b).join (a.bk m)
theorem led_ok (ha : WOk ds a m) (hb : WOk ds b m) (hr : b.room = m) : WOk ds (ledW a b m) a.room := join_ok (join_ok ha hb hr) (bk_ok ha) rfl
theorem led_len (a b : Walk) (m : Int) : (ledW a b m).passes.length = 2 * a.passes.length + b.passes.length := by
  show ((a.passes ++ b.passes) ++ a.passes.reverse.map inv).length = _
  rw [List.length_append, List.length_append, List.length_map, List.length_reverse]
  omega
theorem led_eqv (hz : NZ ds) (ha : WOk ds a m) (hb : WOk ds b m) (hr : b.room = m) : Eqv ds (ledW a b m).wd (a.wd ++ b.wd ++ winv a.wd) := by
  have h1 := join_wd (r := m) hz (join_ok ha hb hr) (bk_ok ha).len
  have h2 := join_wd (r := m) hz ha hb.len
  rw [bk_wd ha] at h1
  refine h1.trans (Eqv.post hz h2)
/-- begun later, as the law makes it -/
theorem turn_led (hz : NZ ds) (hc : WOk ds c c.room) {k : Nat} (hk : k ≤ c.passes.length) : nfW ds (ledW ((goneW c k).bk (roomAt ds c k)) c c.room) = nfW ds (turnW ds c k) := by
  have g := gone_ok hc hk
  have l := later_ok hc hk
  have gb := bk_ok g
  have e1 := led_eqv hz (show WOk ds ((goneW c k).bk (roomAt ds c k)) c.room from gb) hc rfl
  rw [bk_wd g, winv_winv] at e1
  have e2 := split_wd hz hc hk
  have e3 : Eqv ds (winv (goneW c k).wd ++ c.wd ++ (goneW c k).wd) ((laterW ds c k).wd ++ (goneW c k).wd) := by
    have f1 : Eqv ds (winv (goneW c k).wd ++ c.wd) (winv (goneW c k).wd ++ ((goneW c k).wd ++ (laterW ds c k).wd)) := Eqv.pre hz g.ok.winv e2
    have f2 : Eqv ds (winv (goneW c k).wd ++ ((goneW c k).wd ++ (laterW ds c k).wd)) (laterW ds c k).wd := by
      rw [← List.append_assoc]
      have := Eqv.post (v := (laterW ds c k).wd) hz (eqv_winvL hz g.ok)
      simpa using this
    exact Eqv.post hz (f1.trans f2)
  refine nfW_eq ((e1.trans e3).trans (turn_wd hz hc hk).symm) ?_
  exact turn_room.symm
/-- shut, as the law does it -/
theorem core_led (hz : NZ ds) (hc : WOk ds c c.room) (hs : shutsB ds c = true) : nfW ds (ledW ((firstP c).bk (inner ds c).room) c c.room) = nfW ds (inner ds c) := by
  have f := first_ok hc hs
  have fb := bk_ok f
  have e1 := led_eqv hz (show WOk ds ((firstP c).bk (inner ds c).room) c.room from fb) hc rfl
  rw [bk_wd f, winv_winv] at e1
  exact nfW_eq (e1.trans (inner_eqv hz hc hs).symm) rfl
/-- what lead_between gives is a lead by the law's own plain forms -/
theorem lead_plain (hz : NZ ds) {one other found : Walk} (ho : WOk ds one one.room) (ho2 : WOk ds other other.room) (hf : WOk ds found other.room) (hr : found.room = one.room) (he : Eqv ds (found.wd ++ other.wd ++ winv found.wd) one.wd) : nfW ds (ledW found other other.room) = nfW ds one :=
  nfW_eq ((led_eqv hz hf ho2 rfl).trans he) hr
end
end PR

/-! M11: the solutions among 0, 1, ... -/
namespace PR
def apart (l : Int) (a : Nat) : List Nat → Int
  | [] => (l.natAbs : Int)
  | b :: _ => (b : Int) - (a : Int)
theorem emod_natAbs (x l : Int) : x % (l.natAbs : Int) = x % l := by
  rcases Int.natAbs_eq l with h | h
  · rw [← h]
  · have : (l.natAbs : Int) = -l := by omega
    rw [this, Int.emod_neg]
theorem some_set {now gain l : Int} (hl : l ≠ 0) {F : List Nat} (hF : F = (List.range l.natAbs).filter fun (n : Nat) => decide ((now + gain * (n : Int)) % l = 0)) :
    (F = [] → ∀ k, ¬ (now + gain * k) % l = 0) ∧ (∀ a r, F = a :: r → (0 < apart l a r ∧ (apart l a r).natAbs ≤ l.natAbs) ∧ (a < l.natAbs ∧ (now + gain * (a : Int)) % l = 0) ∧ gain * apart l a r % l = 0 ∧ ∀ j, 0 < j → j < apart l a r → ¬ gain * j % l = 0) := by
  have mem : ∀ n : Nat, n ∈ F ↔ n < l.natAbs ∧ (now + gain * (n : Int)) % l = 0 := fun n => by
    rw [hF, List.mem_filter, List.mem_range, decide_eq_true_iff]
  have srt : F.Pairwise (· < ·) := by
    rw [hF]
    exact List.pairwise_lt_range.filter _
  have hln : 0 < l.natAbs := by omega
  have dl : l ∣ (l.natAbs : Int) := Int.natAbs_dvd_natAbs.mp (by rw [Int.natAbs_natCast]; exact Nat.dvd_refl _)
  have red : ∀ k : Int, (now + gain * k) % l = 0 → ((k % (l.natAbs : Int)).toNat) ∈ F ∧ (k % (l.natAbs : Int)) = (((k % (l.natAbs : Int)).toNat : Nat) : Int) := fun k hk => by
    have p0 := Int.emod_nonneg k (show (l.natAbs : Int) ≠ 0 by omega)
    have p1 := Int.emod_lt_of_pos k (show (0 : Int) < (l.natAbs : Int) by omega)
    have e0 : (((k % (l.natAbs : Int)).toNat : Nat) : Int) = k % (l.natAbs : Int) := by omega
    refine ⟨(mem _).mpr ⟨by omega, ?_⟩, e0.symm⟩
    rw [e0]
    have e1 := Int.mul_ediv_add_emod k (l.natAbs : Int)
    have e2 : now + gain * k = (now + gain * (k % (l.natAbs : Int))) + (l.natAbs : Int) * (gain * (k / (l.natAbs : Int))) := by
      have e3 : gain * k = gain * ((l.natAbs : Int) * (k / (l.natAbs : Int))) + gain * (k % (l.natAbs : Int)) := by
        rw [← Int.mul_add, e1]
      have e4 : gain * ((l.natAbs : Int) * (k / (l.natAbs : Int))) = (l.natAbs : Int) * (gain * (k / (l.natAbs : Int))) := by
        rw [← Int.mul_assoc, Int.mul_comm gain, Int.mul_assoc]
      omega
    rw [e2] at hk
    have d1 := Int.dvd_of_emod_eq_zero hk
    exact Int.emod_eq_zero_of_dvd ((Int.dvd_add_left (Int.dvd_trans dl (Int.dvd_mul_right _ _))).mp d1)
  refine ⟨fun h k hk => ?_, fun a r h => ?_⟩
  · have := (red k hk).1
    rw [h] at this
    cases this
  · have ha := (mem a).mp (by rw [h]; exact List.mem_cons_self)
    have da := Int.dvd_of_emod_eq_zero ha.2
    have sub : ∀ j : Int, gain * j % l = 0 → (now + gain * ((a : Int) + j)) % l = 0 := fun j hj => by
      have e : now + gain * ((a : Int) + j) = (now + gain * (a : Int)) + gain * j := by
        rw [Int.mul_add]
        omega
      rw [e]
      exact Int.emod_eq_zero_of_dvd (Int.dvd_add da (Int.dvd_of_emod_eq_zero hj))
    cases r with
    | nil =>
      refine ⟨⟨by show (0 : Int) < (l.natAbs : Int); omega, by show ((l.natAbs : Int)).natAbs ≤ _; omega⟩, ha, Int.emod_eq_zero_of_dvd (Int.dvd_trans dl (Int.dvd_mul_left _ _)), fun j j0 j1 hj => ?_⟩
      have j1' : j < (l.natAbs : Int) := j1
      obtain ⟨m1, m2⟩ := red _ (sub j hj)
      rw [h, List.mem_singleton] at m1
      rw [m1] at m2
      have e1 := Int.mul_ediv_add_emod ((a : Int) + j) (l.natAbs : Int)
      rw [m2] at e1
      have e2 : (l.natAbs : Int) * (((a : Int) + j) / (l.natAbs : Int)) = j := by omega
      have q0 : 0 < ((a : Int) + j) / (l.natAbs : Int) := by
        rcases Int.lt_or_le 0 (((a : Int) + j) / (l.natAbs : Int)) with q | q
        · exact q
        · have := Int.mul_le_mul_of_nonneg_left q (show (0 : Int) ≤ (l.natAbs : Int) by omega)
          omega
      have := Int.mul_le_mul_of_nonneg_left (show (1 : Int) ≤ ((a : Int) + j) / (l.natAbs : Int) by omega) (show (0 : Int) ≤ (l.natAbs : Int) by omega)
      omega
    | cons b r =>
      have hb := (mem b).mp (by rw [h]; exact List.mem_cons_of_mem _ List.mem_cons_self)
      rw [h] at srt
      have s1 := List.pairwise_cons.mp srt
      have s2 := List.pairwise_cons.mp s1.2
      have hab : a < b := s1.1 b List.mem_cons_self
      have hgs : gain * ((b : Int) - (a : Int)) % l = 0 := by
        have d2 := Int.dvd_of_emod_eq_zero hb.2
        have e : gain * ((b : Int) - (a : Int)) = (now + gain * (b : Int)) - (now + gain * (a : Int)) := by
          rw [Int.mul_sub]
          omega
        rw [e]
        exact Int.emod_eq_zero_of_dvd (Int.dvd_sub d2 da)
      refine ⟨⟨by show (0 : Int) < (b : Int) - (a : Int); omega, by show ((b : Int) - (a : Int)).natAbs ≤ _; omega⟩, ha, hgs, fun j j0 j1 hj => ?_⟩
      have j1' : j < (b : Int) - (a : Int) := j1
      have hm := sub j hj
      have e0 : (((((a : Int) + j).toNat : Nat)) : Int) = (a : Int) + j := by omega
      have m1 : ((a : Int) + j).toNat ∈ F := (mem _).mpr ⟨by omega, by rw [e0]; exact hm⟩
      rw [h] at m1
      rcases List.mem_cons.mp m1 with m1 | m1
      · omega
      · rcases List.mem_cons.mp m1 with m1 | m1
        · omega
        · have := s2.1 _ m1
          omega
end PR

/-! Q1: data, slots, what holds of them; expressions and statements over data. -/
namespace QL
open PySem PySem.Spec PyProof.Rows L2
abbrev D := PyData
/-! ### data that do not change -/
mutual
inductive Im (K : PySem.W.Frag) (H : Hp) : V → D → Prop
  | non : Im K H .non .none
  | bl (b : Bool) : Im K H (.bl b) (.bool b)
  | int (i : Int) : Im K H (.int i) (.int i)
  | tup {a : Addr} {vs : List V} {ds : List D} : SqT K H a vs → ImA K H vs ds → Im K H (.ref a) (.tuple ds)
  /-- anything: nothing is known of it -/
  | any (v : V) : Im K H v (.dict [])
inductive ImA (K : PySem.W.Frag) (H : Hp) : List V → List D → Prop
  | nil : ImA K H [] []
  | cons {v : V} {vs : List V} {d : D} {ds : List D} : Im K H v d → ImA K H vs ds → ImA K H (v :: vs) (d :: ds)
end
/-- tuples and instances stay -/
structure Kp (H H' : Hp) : Prop where
  tup : ∀ a xs, Rd H a (.tup xs) → Rd H' a (.tup xs)
  ins : ∀ a C dx fs, H a = some (.ins C dx fs) → H' a = some (.ins C dx fs)
section
variable {K : PySem.W.Frag} {H H' H'' : Hp} {v : V} {d : D} {vs : List V} {ds : List D} {a : Addr} {o : HO}
theorem Kp.refl : Kp H H := ⟨fun _ _ h => h, fun _ _ _ _ h => h⟩
theorem Kp.trans (h : Kp H H') (k : Kp H' H'') : Kp H H'' := ⟨fun a xs q => k.tup a xs (h.tup a xs q), fun a C dx fs q => k.ins a C dx fs (h.ins a C dx fs q)⟩
theorem Kp.sqT (h : Kp H H') (q : SqT K H a vs) : SqT K H' a vs := by
  rcases q with q | q
  · exact .inl (h.tup a vs q)
  · exact .inr q
theorem Kp.new (h : H a = none) : Kp H (upd H a o) := ⟨fun b xs q => by
    rcases q with q | ⟨ob, q⟩
    · exact .inl (by rw [upd_ne (ne_of_none q h)]; exact q)
    · exact .inr ⟨ob, by rw [upd_ne (ne_of_none q h)]; exact q⟩, fun b C dx fs q => by rw [upd_ne (ne_of_none q h)]; exact q⟩
theorem Kp.mutL {xs : List V} (h : H a = some (.lst xs)) : Kp H (upd H a o) := ⟨fun b ys q => by
    rcases q with q | ⟨ob, q⟩
    · exact .inl (by rw [upd_ne (ne_of q h (by intro z; cases z))]; exact q)
    · exact .inr ⟨ob, by rw [upd_ne (ne_of q h (by intro z; cases z))]; exact q⟩, fun b C dx fs q => by rw [upd_ne (ne_of q h (by intro z; cases z))]; exact q⟩
theorem Kp.mutK {xs : List (Key × V)} (h : H a = some (.dK xs)) : Kp H (upd H a o) := ⟨fun b ys q => by
    rcases q with q | ⟨ob, q⟩
    · exact .inl (by rw [upd_ne (ne_of q h (by intro z; cases z))]; exact q)
    · exact .inr ⟨ob, by rw [upd_ne (ne_of q h (by intro z; cases z))]; exact q⟩, fun b C dx fs q => by rw [upd_ne (ne_of q h (by intro z; cases z))]; exact q⟩
mutual
theorem Im.kp (h : Kp H H') : ∀ {v : V} {d : D}, Im K H v d → Im K H' v d
  | _, _, .non => .non
  | _, _, .bl b => .bl b
  | _, _, .int i => .int i
  | _, _, .tup q r => .tup (h.sqT q) (ImA.kp h r)
  | _, _, .any v => .any v
theorem ImA.kp (h : Kp H H') : ∀ {vs : List V} {ds : List D}, ImA K H vs ds → ImA K H' vs ds
  | _, _, .nil => .nil
  | _, _, .cons q r => .cons (Im.kp h q) (ImA.kp h r)
end
mutual
/-- nothing unknown in it -/
def okD : D → Bool
  | .none => true
  | .bool _ => true
  | .int _ => true
  | .tuple xs => okDs xs
  | _ => false
def okDs : List D → Bool
  | [] => true
  | d :: r => okD d && okDs r
end
mutual
theorem Im.dp : ∀ {v : V} {d : D}, okD d = true → Im K H v d → Dp K H v d
  | _, _, _, .non => .non
  | _, _, _, .bl b => .bl b
  | _, _, _, .int i => .int i
  | _, _, h, .tup q r => .tup q (ImA.dp (by unfold okD at h; exact h) r)
  | _, _, h, .any v => by simp [okD] at h
theorem ImA.dp : ∀ {vs : List V} {ds : List D}, okDs ds = true → ImA K H vs ds → DpAll K H vs ds
  | _, _, _, .nil => .nil
  | _, _, h, .cons q r => by
    unfold okDs at h
    obtain ⟨h1, h2⟩ := Bool.and_eq_true_iff.mp h
    exact .cons (Im.dp h1 q) (ImA.dp h2 r)
end
theorem ImA.length : ∀ {vs : List V} {ds : List D}, ImA K H vs ds → vs.length = ds.length
  | _, _, .nil => rfl
  | _, _, .cons _ r => congrArg (· + 1) (ImA.length r)
theorem ImA.get : ∀ {vs : List V} {ds : List D} {i : Nat} {d : D}, ImA K H vs ds → ds[i]? = some d → ∃ v, vs[i]? = some v ∧ Im K H v d
  | _, _, _, _, .nil, e => by simp at e
  | _, _, 0, _, .cons q _, e => by
    cases e
    exact ⟨_, rfl, q⟩
  | _, _, i + 1, d, .cons _ r, e => ImA.get (i := i) (d := d) r (by simpa using e)
theorem ImA.getV : ∀ {vs : List V} {ds : List D} {i : Nat} {v : V}, ImA K H vs ds → vs[i]? = some v → ∃ d, ds[i]? = some d ∧ Im K H v d
  | _, _, _, _, .nil, e => by simp at e
  | _, _, 0, _, .cons q _, e => by
    cases e
    exact ⟨_, rfl, q⟩
  | _, _, i + 1, v, .cons _ r, e => ImA.getV (i := i) (v := v) r (by simpa using e)
theorem ImA.app : ∀ {vs us : List V} {ds es : List D}, ImA K H vs ds → ImA K H us es → ImA K H (vs ++ us) (ds ++ es)
  | _, _, _, _, .nil, k => k
  | _, _, _, _, .cons q r, k => .cons q (ImA.app r k)
theorem ImA.take : ∀ {vs : List V} {ds : List D} (n : Nat), ImA K H vs ds → ImA K H (vs.take n) (ds.take n)
  | _, _, 0, _ => .nil
  | _, _, _ + 1, .nil => .nil
  | _, _, n + 1, .cons q r => .cons q (ImA.take n r)
theorem ImA.drop : ∀ {vs : List V} {ds : List D} (n : Nat), ImA K H vs ds → ImA K H (vs.drop n) (ds.drop n)
  | _, _, 0, r => r
  | _, _, _ + 1, .nil => .nil
  | _, _, n + 1, .cons _ r => ImA.drop n r
theorem ImA.set {v : V} {d : D} (h : Im K H v d) : ∀ {vs : List V} {ds : List D} (n : Nat), ImA K H vs ds → ImA K H (vs.set n v) (ds.set n d)
  | _, _, _, .nil => .nil
  | _, _, 0, .cons _ r => .cons h r
  | _, _, n + 1, .cons q r => .cons q (ImA.set h n r)
theorem ImA.erase : ∀ {vs : List V} {ds : List D} (n : Nat), ImA K H vs ds → ImA K H (vs.eraseIdx n) (ds.eraseIdx n)
  | _, _, _, .nil => .nil
  | _, _, 0, .cons _ r => r
  | _, _, n + 1, .cons q r => .cons q (ImA.erase n r)
theorem ImA.reverse {vs : List V} {ds : List D} (h : ImA K H vs ds) : ImA K H vs.reverse ds.reverse := by
  induction vs generalizing ds with
  | nil =>
    cases h
    exact .nil
  | cons v vs ih =>
    cases h with
    | cons q r =>
      rw [List.reverse_cons, List.reverse_cons]
      exact (ih r).app (.cons q .nil)
theorem ImA.replicate (h : Im K H v d) : ∀ n : Nat, ImA K H (List.replicate n v) (List.replicate n d)
  | 0 => .nil
  | n + 1 => .cons h (ImA.replicate h n)
theorem ImA.dropLast {vs : List V} {ds : List D} (h : ImA K H vs ds) : ImA K H vs.dropLast ds.dropLast := by
  rw [List.dropLast_eq_take, List.dropLast_eq_take, h.length]
  exact h.take _
/-- ints alone -/
theorem ImA.ints : ∀ {vs : List V} {ns : List Int}, ImA K H vs (ns.map PyData.int) → vs = ns.map V.int
  | _, [], h => by
    cases h
    rfl
  | _, n :: ns, h => by
    cases h with
    | cons q r =>
      cases q
      rw [ImA.ints r]
      rfl
theorem ImA.of_ints : ∀ {ns : List Int}, ImA K H (ns.map V.int) (ns.map PyData.int)
  | [] => .nil
  | n :: ns => .cons (.int n) ImA.of_ints
theorem Im.tupI {ds : List D} (h : Im K H v (.tuple ds)) : ∃ a vs, v = .ref a ∧ SqT K H a vs ∧ ImA K H vs ds := by
  cases h with
  | tup q r => exact ⟨_, _, rfl, q, r⟩
theorem Im.intI {i : Int} (h : Im K H v (.int i)) : v = .int i := by
  cases h
  rfl
theorem Im.blI {b : Bool} (h : Im K H v (.bool b)) : v = .bl b := by
  cases h
  rfl
theorem Im.nonI (h : Im K H v .none) : v = .non := by
  cases h
  rfl
end
/-! ### the draws' state -/
structure SA where
  sd : Addr
  sg : Addr
  sc : Addr
  cells : List Int
structure Cq where
  C : Addr
  st : Option SA
abbrev kGreat : Key := .inr "great"
abbrev kCells : Key := .inr "cells"
abbrev kLeft : Key := .inr "left"
abbrev kTurn : Key := .inr "turn"
def stD (s : SA) (l t : Int) : List (Key × V) := [(kGreat, .ref s.sg), (kCells, .ref s.sc), (kLeft, .int l), (kTurn, .int t)]
structure StAt (s : SA) (n : Nat) (H : Hp) : Prop where
  ex : ∃ (l t : Int) (gs : List Int), H s.sd = some (.dK (stD s l t)) ∧ H s.sg = some (.lst (gs.map V.int)) ∧ 0 ≤ l ∧ (∀ g, g ∈ gs → (0 : Int) ≤ g) ∧ 0 ≤ t ∧ t ≤ (n : Int)
  cells : H s.sc = some (.lst (s.cells.map V.int))
  ne : s.sc ≠ s.sg
def Mt (c : Cq) (a : Addr) : Prop := ∃ s, c.st = some s ∧ (a = s.sd ∨ a = s.sg)
/-- at most n turns were drawn -/
def StOk (c : Cq) (n : Nat) (H : Hp) : Prop := ∀ s, c.st = some s → StAt s n H
/-- all that stood stands, but for the draws' state -/
def Ext (c : Cq) (H H' : Hp) : Prop := ∀ a o, H a = some o → ¬ Mt c a → H' a = some o
section
variable {K : PySem.W.Frag} {c : Cq} {H H' H'' : Hp} {a : Addr} {o : HO} {n m : Nat}
theorem Ext.refl : Ext c H H := fun _ _ h _ => h
theorem Ext.trans (h : Ext c H H') (k : Ext c H' H'') : Ext c H H'' := fun a o q n => k a o (h a o q n) n
theorem Ext.new (h : H a = none) : Ext c H (upd H a o) := fun b u q _ => by
  rw [upd_ne (ne_of_none q h)]
  exact q
theorem StOk.mt (s : StOk c n H) (m : Mt c a) : (∃ kvs, H a = some (.dK kvs)) ∨ ∃ xs, H a = some (.lst xs) := by
  obtain ⟨z, hz, m⟩ := m
  obtain ⟨⟨l, t, gs, h1, h2, _⟩, _⟩ := s z hz
  rcases m with rfl | rfl
  · exact .inl ⟨_, h1⟩
  · exact .inr ⟨_, h2⟩
theorem StOk.ntup (s : StOk c n H) {xs : List V} (h : Rd H a (.tup xs)) : ¬ Mt c a := fun m => by
  rcases s.mt m with ⟨_, q⟩ | ⟨_, q⟩ <;> rcases h with h | ⟨_, h⟩ <;> rw [q] at h <;> cases h
theorem StOk.nins (s : StOk c n H) {C dx : Addr} {fs : List (Str × V)} (h : H a = some (.ins C dx fs)) : ¬ Mt c a := fun m => by
  rcases s.mt m with ⟨_, q⟩ | ⟨_, q⟩ <;> rw [q] at h <;> cases h
theorem StOk.there (s : StOk c n H) (m : Mt c a) : H a ≠ none := fun h => by
  rcases s.mt m with ⟨_, q⟩ | ⟨_, q⟩ <;> rw [q] at h <;> cases h
theorem Ext.kp (h : Ext c H H') (s : StOk c n H) : Kp H H' := ⟨fun a xs q => by
    have n := s.ntup q
    rcases q with q | ⟨ob, q⟩
    · exact .inl (h a _ q n)
    · exact .inr ⟨ob, h a _ q n⟩, fun a C dx fs q => h a _ q (s.nins q)⟩
/-- fresh behind is fresh ahead -/
theorem Ext.fresh (h : Ext c H H') (s : StOk c n H') (n : H' a = none) : H a = none := by
  cases q : H a with
  | none => rfl
  | some o =>
    by_cases m : Mt c a
    · exact absurd n (s.there m)
    · rw [h a o q m] at n
      cases n
theorem StOk.keep (s : StOk c n H) (h : ∀ a o, H a = some o → H' a = some o) : StOk c n H' := fun z hz => by
  obtain ⟨⟨l, t, gs, h1, h2, h3⟩, h4, h5⟩ := s z hz
  exact ⟨⟨l, t, gs, h _ _ h1, h _ _ h2, h3⟩, h _ _ h4, h5⟩
theorem StOk.new (s : StOk c n H) (h : H a = none) : StOk c n (upd H a o) := s.keep fun b u q => by
  rw [upd_ne (ne_of_none q h)]
  exact q
/-- an object that is not of the state may change -/
theorem StOk.mut (s : StOk c n H) {H0 : Hp} (s0 : ∃ m, StOk c m H0) (h0 : H0 a = none) (e0 : Ext c H0 H) : StOk c n (upd H a o) := fun z hz => by
  obtain ⟨⟨l, t, gs, h1, h2, h3⟩, h4, h5⟩ := s z hz
  obtain ⟨m, s0⟩ := s0
  obtain ⟨⟨l', t', gs', g1, g2, g3⟩, g4, g5⟩ := s0 z hz
  exact ⟨⟨l, t, gs, by rw [upd_ne (ne_of_none g1 h0)]; exact h1, by rw [upd_ne (ne_of_none g2 h0)]; exact h2, h3⟩, by rw [upd_ne (ne_of_none g4 h0)]; exact h4, h5⟩
end
/-! ### what a slot holds -/
inductive Sl where
  /-- what does not change -/
  | d (x : D)
  /-- a list of one's own, in a slot; one just made -/
  | o (a : Addr) (xs : List D)
  | f (a : Addr) (xs : List D)
  /-- a list that the caller has handed in -/
  | b (xs : List D)
  /-- a house -/
  | h (rooms : Int) (doors : D)
  /-- the draws' state -/
  | s
  /-- a dict of one's own with int keys, in a slot; one just made -/
  | ok (a : Addr) (kvs : List (Int × D))
  | fk (a : Addr) (kvs : List (Int × D))
  /-- just this value -/
  | v (x : V)
abbrev Ga := List (Option Sl)
def adr : Sl → Option Addr
  | .o a _ => some a
  | .ok a _ => some a
  | _ => none
def frA : Sl → Option Addr
  | .f a _ => some a
  | .fk a _ => some a
  | _ => none
def adrs (Γ : Ga) : List Addr := Γ.filterMap fun z => z.bind adr
def KvA (K : PySem.W.Frag) (H : Hp) : List (Key × V) → List (Int × D) → Prop := Paired fun p q => p.1 = .inl q.1 ∧ Im K H p.2 q.2
def Is (K : PySem.W.Frag) (c : Cq) (H0 H : Hp) (v : V) : Sl → Prop
  | .d x => Im K H v x
  | .o a xs => v = .ref a ∧ ∃ vs, H a = some (.lst vs) ∧ ImA K H vs xs
  | .f a xs => v = .ref a ∧ ∃ vs, H a = some (.lst vs) ∧ ImA K H vs xs
  | .b xs => ∃ a vs, v = .ref a ∧ SqL K H0 a vs ∧ ImA K H vs xs ∧ ¬ Mt c a
  | .h rooms doors => ∃ a dx fs t, v = .ref a ∧ H a = some (.ins c.C dx fs) ∧ fs.lookup ("rooms" : Str) = some (.int rooms) ∧ fs.lookup ("doors" : Str) = some t ∧ Im K H t doors
  | .s => ∃ s, c.st = some s ∧ v = .ref s.sd
  | .v x => v = x
  | .ok a kvs => v = .ref a ∧ ∃ vs, H a = some (.dK vs) ∧ KvA K H vs kvs
  | .fk a kvs => v = .ref a ∧ ∃ vs, H a = some (.dK vs) ∧ KvA K H vs kvs
def IsO (K : PySem.W.Frag) (c : Cq) (H0 H : Hp) : Option V → Option Sl → Prop
  | _, none => True
  | some v, some z => Is K c H0 H v z ∧ frA z = none
  | none, some _ => False
/-- what holds of the slots; gh: what is pinned besides (what a loop walks) -/
structure Rs (K : PySem.W.Frag) (c : Cq) (H0 : Hp) (gh : List (V × Sl)) (n : Nat) (σ : L2.St) (Γ : Ga) (H : Hp) : Prop where
  ext : Ext c H0 H
  st0 : ∃ m, StOk c m H0
  st : StOk c n H
  sl : Paired (IsO K c H0 H) σ Γ
  nd : (adrs Γ).Nodup
  own : ∀ a, a ∈ adrs Γ → H0 a = none
  pin : ∀ q, q ∈ gh → Is K c H0 H q.1 q.2 ∧ adr q.2 = none ∧ ∀ a, frA q.2 = some a → a ∉ adrs Γ ∧ H0 a = none
section
variable {K : PySem.W.Frag} {c : Cq} {H0 H H' : Hp} {gh : List (V × Sl)} {n m : Nat} {v : V} {z : Sl} {σ : L2.St} {Γ : Ga}
theorem KvA.kp (h : Kp H H') {vs : List (Key × V)} {kvs : List (Int × D)} (q : KvA K H vs kvs) : KvA K H' vs kvs := Paired.mapP q fun _ _ z => ⟨z.1, z.2.kp h⟩
/-- what is held stays, whatever of the state changes -/
theorem Is.ext (h : Is K c H0 H v z) (e : Ext c H H') (s : StOk c n H) (own : ∀ a, adr z = some a → ¬ Mt c a) (fr : ∀ a, frA z = some a → ¬ Mt c a) : Is K c H0 H' v z := by
  have k := e.kp s
  cases z with
  | d x => exact Im.kp k h
  | o a xs =>
    obtain ⟨h1, vs, h2, h3⟩ := h
    exact ⟨h1, vs, e _ _ h2 (own a rfl), h3.kp k⟩
  | f a xs =>
    obtain ⟨h1, vs, h2, h3⟩ := h
    exact ⟨h1, vs, e _ _ h2 (fr a rfl), h3.kp k⟩
  | b xs =>
    obtain ⟨a, vs, h1, h2, h3, h4⟩ := h
    exact ⟨a, vs, h1, h2, h3.kp k, h4⟩
  | h rooms doors =>
    obtain ⟨a, dx, fs, t, h1, h2, h3, h4, h5⟩ := h
    exact ⟨a, dx, fs, t, h1, k.ins _ _ _ _ h2, h3, h4, h5.kp k⟩
  | s => exact h
  | v x => exact h
  | ok a kvs =>
    obtain ⟨h1, vs, h2, h3⟩ := h
    exact ⟨h1, vs, e _ _ h2 (own a rfl), h3.kp k⟩
  | fk a kvs =>
    obtain ⟨h1, vs, h2, h3⟩ := h
    exact ⟨h1, vs, e _ _ h2 (fr a rfl), h3.kp k⟩
theorem Rs.nmt (r : Rs K c H0 gh n σ Γ H) {a : Addr} (h : H0 a = none) : ¬ Mt c a := fun m => by
  obtain ⟨n0, s0⟩ := r.st0
  exact s0.there m h
theorem adr_mem {i : Nat} {a : Addr} (h : Γ[i]? = some (some z)) (e : adr z = some a) : a ∈ adrs Γ := by
  unfold adrs
  rw [List.mem_filterMap]
  exact ⟨some z, List.mem_of_getElem? h, e⟩
theorem pget {α β : Type} {P : α → β → Prop} : ∀ {xs : List α} {ys : List β} {i : Nat} {y : β}, Paired P xs ys → ys[i]? = some y → ∃ x, xs[i]? = some x ∧ P x y
  | _, _, _, _, .nil, e => by simp at e
  | _, _, 0, _, .cons q _, e => by
    cases e
    exact ⟨_, rfl, q⟩
  | _, _, i + 1, y, .cons _ r, e => pget (i := i) (y := y) r (by simpa using e)
theorem psetP {α β : Type} {P : α → β → Prop} {x : α} {y : β} (h : P x y) : ∀ {xs : List α} {ys : List β} (i : Nat), Paired P xs ys → Paired P (xs.set i x) (ys.set i y)
  | _, _, _, .nil => .nil
  | _, _, 0, .cons _ r => .cons h r
  | _, _, i + 1, .cons q r => .cons q (psetP h i r)
theorem Rs.get (r : Rs K c H0 gh n σ Γ H) {i : Nat} (h : Γ[i]? = some (some z)) : ∃ v, σ[i]? = some (some v) ∧ Is K c H0 H v z ∧ frA z = none := by
  obtain ⟨x, hx, q⟩ := pget r.sl h
  cases x with
  | none => exact q.elim
  | some v => exact ⟨v, hx, q⟩
/-- the slots stay what they are -/
theorem Rs.extd (r : Rs K c H0 gh n σ Γ H) (e : Ext c H H') (s : StOk c m H') : Rs K c H0 gh m σ Γ H' := by
  refine ⟨r.ext.trans e, r.st0, s, ?_, r.nd, r.own, fun q hq => ?_⟩
  rotate_left
  · obtain ⟨h1, h2, h3⟩ := r.pin q hq
    refine ⟨h1.ext e r.st (fun a ha => ?_) (fun a ha => r.nmt (h3 a ha).2), h2, h3⟩
    rw [h2] at ha
    cases ha
  have key : ∀ (σ : L2.St) (Γ' : Ga), (∀ z, z ∈ Γ' → z ∈ Γ) → Paired (IsO K c H0 H) σ Γ' → Paired (IsO K c H0 H') σ Γ' := by
    intro σ Γ' hs p
    induction p with
    | nil => exact .nil
    | @cons x y xs ys q _ ih =>
      refine .cons ?_ (ih fun z hz => hs z (List.mem_cons_of_mem _ hz))
      cases y with
      | none => trivial
      | some z =>
        cases x with
        | none => exact q.elim
        | some v =>
          refine ⟨Is.ext q.1 e r.st (fun a ha => ?_) (fun a ha => ?_), q.2⟩
          · refine r.nmt (r.own a ?_)
            unfold adrs
            rw [List.mem_filterMap]
            exact ⟨some z, hs _ List.mem_cons_self, ha⟩
          · rw [q.2] at ha
            cases ha
  exact key σ Γ (fun _ h => h) r.sl
end
end QL

/-! Q2: expressions over data. -/
namespace QL
open PySem PySem.Spec PyProof.Rows L2
structure Wx where
  X : Cx
  c : Cq
  H0 : Hp
  gh : List (V × Sl)
structure Wx.Ok (W : Wx) : Prop where
  nd : W.X.N.Nodup
  calm : W.X.calm = true
  hu : W.X.A.units + 64 < cLine
  pass : PassesOwn (model W.X.prog W.X.w) W.X.A W.X.env W.X.xe
abbrev Wx.Rs (W : Wx) (ν : Nat) (σ : L2.St) (Γ : Ga) (H : Hp) : Prop := QL.Rs W.X.K W.c W.H0 W.gh ν σ Γ H
abbrev Wx.Is (W : Wx) (H : Hp) (v : V) (z : Sl) : Prop := QL.Is W.X.K W.c W.H0 H v z
/-- a result that is new is new; one that is a slot's is a slot's -/
def pinA (gh : List (V × Sl)) : List Addr := gh.filterMap fun q => frA q.2
structure Fr (W : Wx) (Γ : Ga) (z : Sl) : Prop where
  fr : ∀ a, frA z = some a → (a ∉ adrs Γ ∧ a ∉ pinA W.gh) ∧ W.H0 a = none
  ad : ∀ a, adr z = some a → a ∈ adrs Γ
theorem Fr.d {W : Wx} {Γ : Ga} {x : D} : Fr W Γ (.d x) := ⟨fun _ h => (nomatch h), fun _ h => (nomatch h)⟩
theorem Fr.h {W : Wx} {Γ : Ga} {n : Int} {x : D} : Fr W Γ (.h n x) := ⟨fun _ h => (nomatch h), fun _ h => (nomatch h)⟩
theorem Fr.b {W : Wx} {Γ : Ga} {x : List D} : Fr W Γ (.b x) := ⟨fun _ h => (nomatch h), fun _ h => (nomatch h)⟩
theorem Fr.nmt {ν : Nat} {W : Wx} {Γ : Ga} {z : Sl} {σ : L2.St} {H : Hp} (f : Fr W Γ z) (r : W.Rs ν σ Γ H) : (∀ a, adr z = some a → ¬ Mt W.c a) ∧ (∀ a, frA z = some a → ¬ Mt W.c a) :=
  ⟨fun a h => r.nmt (r.own a (f.ad a h)), fun a h => r.nmt (f.fr a h).2⟩
/-- what follows an expression -/
def NewAt (H : Hp) (z : Sl) : Prop := ∀ a, frA z = some a → H a = none
def Kt (W : Wx) (σ : L2.St) (Γ : Ga) (H : Hp) (k : Nat → Sl → Prop) (Q : VK) : Prop := ∀ {ν : Nat} v H' z, W.Rs ν σ Γ H' → Ext W.c H H' → W.Is H' v z → Fr W Γ z → NewAt H z → k ν z → Q v H'
structure wpE (X : Cx) (e : Expr) (σ : L2.St) (H : Hp) (Q : VK) : Prop where
  run : ∀ (pins : List (Addr × Obj)) (s : Shared), Inv X pins σ H s → wpAny (model X.prog X.w) X.A (eval e X.env) (EP X pins σ Q) X.xe s
theorem pe_wp {X : Cx} {e : Expr} : PE X e (wpE X e) := ⟨fun pins s σ H Q I h => h.run pins s I⟩
theorem wp_of {X : Cx} {e : Expr} {t : TE} {σ : L2.St} {H : Hp} {Q : VK} (h : PE X e t) (q : t σ H Q) : wpE X e σ H Q := ⟨fun pins s I => h.run pins s σ H Q I q⟩
/-- e evaluates to some z of which k holds -/
def QE (W : Wx) (ν : Nat) (Γ : Ga) (e : Expr) (k : Nat → Sl → Prop) : Prop := ∀ σ H Q, W.Rs ν σ Γ H → Kt W σ Γ H k Q → wpE W.X e σ H Q
/-- a op b, as a value or as a test -/
structure wpC (X : Cx) (op : CmpOp) (a b : Expr) (σ : L2.St) (H : Hp) (Q : VK) : Prop where
  run : ∀ (pins : List (Addr × Obj)) (s : Shared), Inv X pins σ H s →
  wpAny (model X.prog X.w) X.A (eval a X.env) (fun v s₁ => wpAny (model X.prog X.w) X.A (eval b X.env) (fun u s₂ => wpAny (model X.prog X.w) X.A (compareOp op v u) (EP X pins σ Q) X.xe s₂) X.xe s₁) X.xe s
theorem pc_wp {X : Cx} {op : CmpOp} {a b : Expr} : PC X op a b (wpC X op a b) := ⟨fun pins s σ H Q I h => h.run pins s I⟩
theorem wpc_of {X : Cx} {op : CmpOp} {a b : Expr} {t : TE} {σ : L2.St} {H : Hp} {Q : VK} (h : PC X op a b t) (q : t σ H Q) : wpC X op a b σ H Q := ⟨fun pins s I => h.run pins s σ H Q I q⟩
theorem pc_op {X : Cx} {op : CmpOp} {a b : Expr} {ta tb : TE} {r : R2} (ho : OpR X (compareOp op) r) (ha : PE X a ta) (hb : PE X b tb) : PC X op a b (tOp r ta tb) :=
  ⟨fun pins s σ H Q I h => binT ha hb I h fun v u s2 x y H2 I2 rx ry q => ho pins s2 σ H2 x y v u Q I2 rx ry q⟩
def QCmp (W : Wx) (ν : Nat) (Γ : Ga) (op : CmpOp) (a b : Expr) (k : Nat → Sl → Prop) : Prop := ∀ σ H Q, W.Rs ν σ Γ H → Kt W σ Γ H k Q → wpC W.X op a b σ H Q
section
variable {ν ν' : Nat} {W : Wx} {σ : L2.St} {Γ : Ga} {H H1 H2 : Hp} {k k' : Nat → Sl → Prop} {Q : VK} {z : Sl} {v : V} {a b e : Expr} {x : D} {pos : Pos} {p : Addr}
theorem NewAt.no (h : frA z = none) : NewAt H z := fun a q => by
  rw [h] at q
  cases q
theorem NewAt.back (n : NewAt H1 z) (e : Ext W.c H H1) (r : W.Rs ν σ Γ H1) : NewAt H z := fun a q => e.fresh r.st (n a q)
theorem Kt.here (K : Kt W σ Γ H k Q) (r : W.Rs ν σ Γ H) (i : W.Is H v z) (f : Fr W Γ z) (h : k ν z) (hf : frA z = none) : Q v H := K v H z r .refl i f (.no hf) h
theorem Kt.dat (K : Kt W σ Γ H k Q) (r : W.Rs ν σ Γ H) (i : Im W.X.K H v x) (h : k ν (.d x)) : Q v H := K.here r (z := .d x) i .d h rfl
theorem Kt.int (K : Kt W σ Γ H k Q) (r : W.Rs ν σ Γ H) {i : Int} (h : k ν (.d (.int i))) : Q (.int i) H := K.dat r (.int i) h
theorem Kt.bl (K : Kt W σ Γ H k Q) (r : W.Rs ν σ Γ H) {i : Bool} (h : k ν (.d (.bool i))) : Q (.bl i) H := K.dat r (.bl i) h
theorem Kt.step (K : Kt W σ Γ H k Q) (e : Ext W.c H H1) (r1 : W.Rs ν σ Γ H1) : Kt W σ Γ H1 k Q := fun v H' z r e2 i f n h => K v H' z r (e.trans e2) i f (n.back e r1) h
theorem Rs.new (r : W.Rs ν σ Γ H) (h : H p = none) {o : HO} : W.Rs ν σ Γ (upd H p o) := r.extd (.new h) (r.st.new h)
theorem Rs.fresh (r : W.Rs ν σ Γ H) (h : H p = none) : W.H0 p = none := r.ext.fresh r.st h
theorem Rs.notpin (r : W.Rs ν σ Γ H) (h : H p = none) : p ∉ pinA W.gh := fun m => by
  unfold pinA at m
  rw [List.mem_filterMap] at m
  obtain ⟨⟨v, z⟩, hq, e⟩ := m
  obtain ⟨q, _, _⟩ := r.pin _ hq
  cases z with
  | f a xs =>
    cases e
    obtain ⟨_, vs, q, _⟩ := q
    rw [h] at q
    cases q
  | fk a xs =>
    cases e
    obtain ⟨_, vs, q, _⟩ := q
    rw [h] at q
    cases q
  | _ => cases e
theorem Rs.notin1 (r : W.Rs ν σ Γ H) (h : H p = none) : p ∉ adrs Γ := fun m => by
  unfold adrs at m
  rw [List.mem_filterMap] at m
  obtain ⟨y, hy, e⟩ := m
  obtain ⟨i, hi, e2⟩ := List.mem_iff_getElem.mp hy
  cases y with
  | none => cases e
  | some z =>
    obtain ⟨v, _, q, _⟩ := r.get (i := i) (z := z) (by rw [List.getElem?_eq_getElem hi, e2])
    cases z with
    | o a xs =>
      cases e
      obtain ⟨_, vs, q, _⟩ := q
      rw [h] at q
      cases q
    | ok a xs =>
      cases e
      obtain ⟨_, vs, q, _⟩ := q
      rw [h] at q
      cases q
    | _ => cases e
theorem Rs.notin (r : W.Rs ν σ Γ H) (h : H p = none) : p ∉ adrs Γ ∧ p ∉ pinA W.gh := ⟨Rs.notin1 r h, Rs.notpin r h⟩
theorem Kt.newT (K : Kt W σ Γ H k Q) (r : W.Rs ν σ Γ H) (n : H p = none) {vs : List V} {ds : List D} (i : ImA W.X.K H vs ds) (h : k ν (.d (.tuple ds))) : Q (.ref p) (upd H p (.tup vs)) :=
  K _ _ (.d (.tuple ds)) (Rs.new r n) (.new n) (.tup (.inl (.inl upd_same)) (i.kp (.new n))) .d (.no rfl) h
theorem Kt.newL (K : Kt W σ Γ H k Q) (r : W.Rs ν σ Γ H) (n : H p = none) {vs : List V} {ds : List D} (i : ImA W.X.K H vs ds) (h : k ν (.f p ds)) : Q (.ref p) (upd H p (.lst vs)) :=
  K _ _ (.f p ds) (Rs.new r n) (.new n) ⟨rfl, vs, upd_same, i.kp (.new n)⟩ ⟨fun a q => by cases q; exact ⟨Rs.notin r n, Rs.fresh r n⟩, fun _ q => nomatch q⟩ (fun a q => by cases q; exact n) h
theorem Kt.newK (K : Kt W σ Γ H k Q) (r : W.Rs ν σ Γ H) (n : H p = none) {vs : List (Key × V)} {ds : List (Int × D)} (i : KvA W.X.K H vs ds) (h : k ν (.fk p ds)) : Q (.ref p) (upd H p (.dK vs)) :=
  K _ _ (.fk p ds) (Rs.new r n) (.new n) ⟨rfl, vs, upd_same, i.kp (.new n)⟩ ⟨fun a q => by cases q; exact ⟨Rs.notin r n, Rs.fresh r n⟩, fun _ q => nomatch q⟩ (fun a q => by cases q; exact n) h
theorem QE.mono (h : QE W ν Γ e k) (i : ∀ {ν : Nat} z, k ν z → k' ν z) : QE W ν Γ e k' := fun σ H Q r K => h σ H Q r fun v H' z r' e' i' f' n' h' => K v H' z r' e' i' f' n' (i z h')
/-- carry a value over an extension -/
theorem Is.over (i : W.Is H v z) (f : Fr W Γ z) (r : W.Rs ν σ Γ H) (e : Ext W.c H H1) : W.Is H1 v z := Is.ext i e r.st (f.nmt r).1 (f.nmt r).2
/-- a slot -/
theorem q_v (i : Nat) {nm : Str} (h : ∃ z, Γ[i]? = some (some z) ∧ k ν z) (hN : W.X.N[i]? = some nm := by rfl) (hv : Vis W.X.env.scope nm := by first | exact Or.inl rfl | exact Or.inr (Or.inl rfl) | exact Or.inr (Or.inr rfl)) (hd : (nm == ("__debug__" : Str)) = false := by decide)
    (hcd : (nm == ("__classdict__" : Str)) = false := by decide) : QE W ν Γ (.Name nm pos) k := fun σ H Q r K => by
  obtain ⟨z, hz, hk⟩ := h
  obtain ⟨v, hv1, hi, hf⟩ := r.get hz
  refine wp_of (pe_var hN hv hd hcd) ⟨v, hv1, ?_⟩
  refine K.here r hi ⟨fun a q => ?_, fun a q => adr_mem hz q⟩ hk hf
  rw [hf] at q
  cases q
theorem q_int {i : Int} {j} (h : k ν (.d (.int i))) : QE W ν Γ (.Constant (.int i) j pos) k := fun σ H Q r K => wp_of pe_int (show tC (.int i) σ H Q from K.int r h)
theorem q_bl {i : Bool} {j} (h : k ν (.d (.bool i))) : QE W ν Γ (.Constant (.bool i) j pos) k := fun σ H Q r K => wp_of pe_bl (show tC (.bl i) σ H Q from K.bl r h)
theorem q_non {j} (h : k ν (.d .none)) : QE W ν Γ (.Constant .none j pos) k := fun σ H Q r K => wp_of pe_non (show tC .non σ H Q from K.dat r .non h)
theorem q_gint {nm : Str} {i : Int} {u : Value} (hm : W.X.mg nm = some u) (hr : RelV (.int i) u) (h : k ν (.d (.int i))) (hg : Gl W.X nm := by rfl) (hd : (nm == ("__debug__" : Str)) = false := by decide) : QE W ν Γ (.Name nm pos) k := fun σ H Q r K =>
  wp_of (pe_glob hg hm hr hd) (show tC (.int i) σ H Q from K.int r h)
/-- a string: nothing is said of it -/
theorem q_str {s : Str} {j} (h : k ν (.d (.dict []))) : QE W ν Γ (.Constant (.str s) j pos) k := fun σ H Q r K => wp_of pe_str (show tC _ σ H Q from K.dat r (.any _) h)
/-- two operands -/
theorem q_two' {r2 : R2} {wp : TE} (hp : ∀ σ H Q, tOp r2 (wpE W.X a) (wpE W.X b) σ H Q → wp σ H Q) (kk : Nat → Sl → Sl → Prop)
    (hr : ∀ {ν : Nat} x y, kk ν x y → ∀ σ H v u Q, W.Rs ν σ Γ H → W.Is H v x → W.Is H u y → Fr W Γ x → Fr W Γ y → Kt W σ Γ H k Q → r2 v u H Q) (h : QE W ν Γ a fun ν1 x => QE W ν1 Γ b fun ν2 y => kk ν2 x y) : ∀ σ H Q, W.Rs ν σ Γ H → Kt W σ Γ H k Q → wp σ H Q := fun σ H Q r K => by
  refine hp σ H Q ?_
  refine h σ H _ r fun v H1 x r1 e1 i1 f1 _ h1 => ?_
  refine h1 σ H1 _ r1 fun u H2 y r2 e2 i2 f2 _ h2 => ?_
  exact hr x y h2 σ H2 v u Q r2 (i1.over f1 r1 e2) i2 f1 f2 (K.step (e1.trans e2) r2)
theorem q_two {r2 : R2} {e : Expr} (hp : PE W.X e (tOp r2 (wpE W.X a) (wpE W.X b))) (kk : Nat → Sl → Sl → Prop)
    (hr : ∀ {ν : Nat} x y, kk ν x y → ∀ σ H v u Q, W.Rs ν σ Γ H → W.Is H v x → W.Is H u y → Fr W Γ x → Fr W Γ y → Kt W σ Γ H k Q → r2 v u H Q) (h : QE W ν Γ a fun ν1 x => QE W ν1 Γ b fun ν2 y => kk ν2 x y) : QE W ν Γ e k := q_two' (fun _ _ _ q => wp_of hp q) kk hr h
theorem q_twoC {r2 : R2} {op : CmpOp} (hp : PC W.X op a b (tOp r2 (wpE W.X a) (wpE W.X b))) (kk : Nat → Sl → Sl → Prop)
    (hr : ∀ {ν : Nat} x y, kk ν x y → ∀ σ H v u Q, W.Rs ν σ Γ H → W.Is H v x → W.Is H u y → Fr W Γ x → Fr W Γ y → Kt W σ Γ H k Q → r2 v u H Q) (h : QE W ν Γ a fun ν1 x => QE W ν1 Γ b fun ν2 y => kk ν2 x y) : QCmp W ν Γ op a b k := q_two' (fun _ _ _ q => wpc_of hp q) kk hr h
theorem q_ii {op : Operator} {C : Int → Int → Prop} {g : Int → Int → Int} (ho : OpR W.X (binaryOp op) (rI C fun i j => .int (g i j))) (h : QE W ν Γ a fun ν1 x => ∃ i, x = .d (.int i) ∧ QE W ν1 Γ b fun ν2 y => ∃ j, y = .d (.int j) ∧ C i j ∧ k ν2 (.d (.int (g i j)))) : QE W ν Γ (.BinOp a op b pos) k := by
  refine q_two (pe_op ho pe_wp pe_wp) (fun μ x y => ∃ i j, x = .d (.int i) ∧ y = .d (.int j) ∧ C i j ∧ k μ (.d (.int (g i j)))) ?_ ?_
  · rintro μ x y ⟨i, j, rfl, rfl, c, hk⟩ σ H v u Q r i1 i2 _ _ K
    rw [Im.intI i1, Im.intI i2]
    exact ⟨i, j, rfl, rfl, c, K.int r hk⟩
  · refine h.mono fun x ⟨i, e, q⟩ => q.mono fun y ⟨j, e2, c, hk⟩ => ⟨i, j, e, e2, c, hk⟩
theorem q_i0 {op : Operator} {g : Int → Int → Int} (ho : OpR W.X (binaryOp op) (rI0 fun i j => .int (g i j))) (h : QE W ν Γ a fun ν1 x => ∃ i, x = .d (.int i) ∧ QE W ν1 Γ b fun ν2 y => ∃ j, y = .d (.int j) ∧ k ν2 (.d (.int (g i j)))) : QE W ν Γ (.BinOp a op b pos) k := by
  refine q_two (pe_op ho pe_wp pe_wp) (fun μ x y => ∃ i j, x = .d (.int i) ∧ y = .d (.int j) ∧ k μ (.d (.int (g i j)))) ?_ ?_
  · rintro μ x y ⟨i, j, rfl, rfl, hk⟩ σ H v u Q r i1 i2 _ _ K
    rw [Im.intI i1, Im.intI i2]
    exact ⟨i, j, rfl, rfl, K.int r hk⟩
  · refine h.mono fun x ⟨i, e, q⟩ => q.mono fun y ⟨j, e2, hk⟩ => ⟨i, j, e, e2, hk⟩
theorem q_add (h : QE W ν Γ a fun ν1 x => ∃ i, x = .d (.int i) ∧ QE W ν1 Γ b fun ν2 y => ∃ j, y = .d (.int j) ∧ k ν2 (.d (.int (i + j)))) : QE W ν Γ (.BinOp a .Add b pos) k := q_i0 op_add h
theorem q_sub (h : QE W ν Γ a fun ν1 x => ∃ i, x = .d (.int i) ∧ QE W ν1 Γ b fun ν2 y => ∃ j, y = .d (.int j) ∧ k ν2 (.d (.int (i - j)))) : QE W ν Γ (.BinOp a .Sub b pos) k := q_i0 op_sub h
theorem q_mul (h : QE W ν Γ a fun ν1 x => ∃ i, x = .d (.int i) ∧ QE W ν1 Γ b fun ν2 y => ∃ j, y = .d (.int j) ∧ CMul i j ∧ k ν2 (.d (.int (i * j)))) : QE W ν Γ (.BinOp a .Mult b pos) k := q_ii op_mul h
theorem q_fdiv (h : QE W ν Γ a fun ν1 x => ∃ i, x = .d (.int i) ∧ QE W ν1 Γ b fun ν2 y => ∃ j, y = .d (.int j) ∧ CDivN i j ∧ k ν2 (.d (.int (i.fdiv j)))) : QE W ν Γ (.BinOp a .FloorDiv b pos) k := q_ii op_fdivN h
theorem q_mod (h : QE W ν Γ a fun ν1 x => ∃ i, x = .d (.int i) ∧ QE W ν1 Γ b fun ν2 y => ∃ j, y = .d (.int j) ∧ j ≠ 0 ∧ k ν2 (.d (.int (i.fmod j)))) : QE W ν Γ (.BinOp a .Mod b pos) k := q_ii op_modN h
theorem q_pow (h : QE W ν Γ a fun ν1 x => ∃ i, x = .d (.int i) ∧ QE W ν1 Γ b fun ν2 y => ∃ j, y = .d (.int j) ∧ CPow i j ∧ k ν2 (.d (.int (i ^ j.toNat)))) : QE W ν Γ (.BinOp a .Pow b pos) k := q_ii op_pow h
theorem q_neg (h : QE W ν Γ a fun ν1 x => ∃ i, x = .d (.int i) ∧ k ν1 (.d (.int (-i)))) : QE W ν Γ (.UnaryOp .USub a pos) k := fun σ H Q r K => by
  refine wp_of (pe_un un_neg pe_wp) ?_
  refine h σ H _ r fun v H1 x r1 e1 i1 f1 _ ⟨i, ex, hk⟩ => ?_
  subst ex
  rw [Im.intI i1]
  exact ⟨i, rfl, Kt.int (K.step e1 r1) r1 hk⟩
/-! ### comparisons of ints as values -/
theorem c_cmp {op : CmpOp} {g : Int → Int → Bool} (ho : OpR W.X (compareOp op) (rI0 fun i j => .bl (g i j))) (h : QE W ν Γ a fun ν1 x => ∃ i, x = .d (.int i) ∧ QE W ν1 Γ b fun ν2 y => ∃ j, y = .d (.int j) ∧ k ν2 (.d (.bool (g i j)))) : QCmp W ν Γ op a b k := by
  refine q_twoC (pc_op ho pe_wp pe_wp) (fun μ x y => ∃ i j, x = .d (.int i) ∧ y = .d (.int j) ∧ k μ (.d (.bool (g i j)))) ?_ ?_
  · rintro μ x y ⟨i, j, rfl, rfl, hk⟩ σ H v u Q r i1 i2 _ _ K
    rw [Im.intI i1, Im.intI i2]
    exact ⟨i, j, rfl, rfl, K.bl r hk⟩
  · refine h.mono fun x ⟨i, e, q⟩ => q.mono fun y ⟨j, e2, hk⟩ => ⟨i, j, e, e2, hk⟩
theorem c_lt (h : QE W ν Γ a fun ν1 x => ∃ i, x = .d (.int i) ∧ QE W ν1 Γ b fun ν2 y => ∃ j, y = .d (.int j) ∧ k ν2 (.d (.bool (decide (i < j))))) : QCmp W ν Γ .Lt a b k := c_cmp op_lt h
theorem c_le (h : QE W ν Γ a fun ν1 x => ∃ i, x = .d (.int i) ∧ QE W ν1 Γ b fun ν2 y => ∃ j, y = .d (.int j) ∧ k ν2 (.d (.bool (decide (i ≤ j))))) : QCmp W ν Γ .LtE a b k := c_cmp op_le h
theorem c_gt (h : QE W ν Γ a fun ν1 x => ∃ i, x = .d (.int i) ∧ QE W ν1 Γ b fun ν2 y => ∃ j, y = .d (.int j) ∧ k ν2 (.d (.bool (decide (j < i))))) : QCmp W ν Γ .Gt a b k := c_cmp op_gt h
theorem c_ge (h : QE W ν Γ a fun ν1 x => ∃ i, x = .d (.int i) ∧ QE W ν1 Γ b fun ν2 y => ∃ j, y = .d (.int j) ∧ k ν2 (.d (.bool (decide (j ≤ i))))) : QCmp W ν Γ .GtE a b k := c_cmp op_ge h
/-- == and != of ints | bools -/
theorem c_eqI (h : QE W ν Γ a fun ν1 x => ∃ i, x = .d (.int i) ∧ QE W ν1 Γ b fun ν2 y => ∃ j, y = .d (.int j) ∧ k ν2 (.d (.bool (decide (i = j))))) : QCmp W ν Γ .Eq a b k := by
  refine q_twoC (pc_op op_eq pe_wp pe_wp) (fun μ x y => ∃ i j, x = .d (.int i) ∧ y = .d (.int j) ∧ k μ (.d (.bool (decide (i = j))))) ?_ ?_
  · rintro μ x y ⟨i, j, rfl, rfl, hk⟩ σ H v u Q r i1 i2 _ _ K
    rw [Im.intI i1, Im.intI i2]
    refine ⟨rfl, K.bl r ?_⟩
    have e : decide (V.int i = V.int j) = decide (i = j) := decide_eq_decide.mpr ⟨V.int.inj, congrArg _⟩
    rw [e]
    exact hk
  · refine h.mono fun x ⟨i, e, q⟩ => q.mono fun y ⟨j, e2, hk⟩ => ⟨i, j, e, e2, hk⟩
theorem c_neI (h : QE W ν Γ a fun ν1 x => ∃ i, x = .d (.int i) ∧ QE W ν1 Γ b fun ν2 y => ∃ j, y = .d (.int j) ∧ k ν2 (.d (.bool (!decide (i = j))))) : QCmp W ν Γ .NotEq a b k := by
  refine q_twoC (pc_op op_ne pe_wp pe_wp) (fun μ x y => ∃ i j, x = .d (.int i) ∧ y = .d (.int j) ∧ k μ (.d (.bool (!decide (i = j))))) ?_ ?_
  · rintro μ x y ⟨i, j, rfl, rfl, hk⟩ σ H v u Q r i1 i2 _ _ K
    rw [Im.intI i1, Im.intI i2]
    refine ⟨rfl, K.bl r ?_⟩
    have e : decide (V.int i = V.int j) = decide (i = j) := decide_eq_decide.mpr ⟨V.int.inj, congrArg _⟩
    rw [e]
    exact hk
  · refine h.mono fun x ⟨i, e, q⟩ => q.mono fun y ⟨j, e2, hk⟩ => ⟨i, j, e, e2, hk⟩
theorem c_eqB (h : QE W ν Γ a fun ν1 x => ∃ i, x = .d (.bool i) ∧ QE W ν1 Γ b fun ν2 y => ∃ j, y = .d (.bool j) ∧ k ν2 (.d (.bool (i == j)))) : QCmp W ν Γ .Eq a b k := by
  refine q_twoC (pc_op op_eq pe_wp pe_wp) (fun μ x y => ∃ i j, x = .d (.bool i) ∧ y = .d (.bool j) ∧ k μ (.d (.bool (i == j)))) ?_ ?_
  · rintro μ x y ⟨i, j, rfl, rfl, hk⟩ σ H v u Q r i1 i2 _ _ K
    rw [Im.blI i1, Im.blI i2]
    refine ⟨rfl, K.bl r ?_⟩
    have e : decide (V.bl i = V.bl j) = (i == j) := by cases i <;> cases j <;> rfl
    rw [e]
    exact hk
  · refine h.mono fun x ⟨i, e, q⟩ => q.mono fun y ⟨j, e2, hk⟩ => ⟨i, j, e, e2, hk⟩
/-- data of any depth -/
def dOf : Sl → D
  | .d x => x
  | .o _ xs => .list xs
  | .f _ xs => .list xs
  | .b xs => .list xs
  | _ => .none
/-- data of which nothing is unknown -/
def okZ : Sl → Bool
  | .d x => okD x
  | .o _ xs => okDs xs
  | .f _ xs => okDs xs
  | .b xs => okDs xs
  | _ => false
theorem Ext.sqL {K : PySem.W.Frag} {c : Cq} {xs : List V} (e : Ext c H H1) (n : ¬ Mt c p) (h : SqL K H p xs) : SqL K H1 p xs := by
  rcases h with (h | ⟨o, h⟩) | h
  · exact .inl (.inl (e _ _ h n))
  · exact .inl (.inr ⟨o, e _ _ h n⟩)
  · exact .inr h
theorem Is.dp (i : W.Is H v z) (r : W.Rs ν σ Γ H) (h : okZ z = true) : Dp W.X.K H v (dOf z) := by
  cases z with
  | d x => exact Im.dp h i
  | o a xs =>
    obtain ⟨rfl, vs, h1, h2⟩ := i
    exact .lst (.inl (.inl h1)) (h2.dp h)
  | f a xs =>
    obtain ⟨rfl, vs, h1, h2⟩ := i
    exact .lst (.inl (.inl h1)) (h2.dp h)
  | b xs =>
    obtain ⟨a, vs, rfl, h1, h2, h3⟩ := i
    exact .lst (r.ext.sqL h3 h1) (h2.dp h)
  | _ => cases h
theorem c_eqD (h : QE W ν Γ a fun ν1 x => okZ x = true ∧ SeqAt.shaped (dOf x) = true ∧ QE W ν1 Γ b fun ν2 y => okZ y = true ∧ SeqAt.shaped (dOf y) = true ∧ k ν2 (.d (.bool (PyData.eqv (dOf x) (dOf y))))) (ok : W.Ok) : QCmp W ν Γ .Eq a b k := by
  refine q_twoC (pc_op (op_eqD ok.hu) pe_wp pe_wp) (fun μ x y => (okZ x = true ∧ SeqAt.shaped (dOf x) = true) ∧ okZ y = true ∧ SeqAt.shaped (dOf y) = true ∧ k μ (.d (.bool (PyData.eqv (dOf x) (dOf y))))) ?_ ?_
  · rintro μ x y ⟨⟨h1, h2⟩, h3, h4, hk⟩ σ H v u Q r i1 i2 _ _ K
    exact ⟨_, _, i1.dp r h1, i2.dp r h3, h2, h4, K.bl r hk⟩
  · exact h.mono fun x ⟨h1, h2, q⟩ => q.mono fun y q2 => ⟨⟨h1, h2⟩, q2⟩
theorem c_neD (h : QE W ν Γ a fun ν1 x => okZ x = true ∧ SeqAt.shaped (dOf x) = true ∧ QE W ν1 Γ b fun ν2 y => okZ y = true ∧ SeqAt.shaped (dOf y) = true ∧ k ν2 (.d (.bool (!PyData.eqv (dOf x) (dOf y))))) (ok : W.Ok) : QCmp W ν Γ .NotEq a b k := by
  refine q_twoC (pc_op (op_neD ok.hu) pe_wp pe_wp) (fun μ x y => (okZ x = true ∧ SeqAt.shaped (dOf x) = true) ∧ okZ y = true ∧ SeqAt.shaped (dOf y) = true ∧ k μ (.d (.bool (!PyData.eqv (dOf x) (dOf y))))) ?_ ?_
  · rintro μ x y ⟨⟨h1, h2⟩, h3, h4, hk⟩ σ H v u Q r i1 i2 _ _ K
    exact ⟨_, _, i1.dp r h1, i2.dp r h3, h2, h4, K.bl r hk⟩
  · exact h.mono fun x ⟨h1, h2, q⟩ => q.mono fun y q2 => ⟨⟨h1, h2⟩, q2⟩
/-- a thing of which something is known -/
def topD : D → Bool
  | .dict _ => false
  | _ => true
def isNone : D → Bool
  | .none => true
  | _ => false
theorem Im.non_iff {K : PySem.W.Frag} {H : Hp} {v : V} {x : D} (hx : topD x = true) (h : Im K H v x) : decide (v = .non) = isNone x := by
  cases h with
  | any v => cases hx
  | _ => rfl
theorem c_isN {j pos'} (h : QE W ν Γ a fun ν1 x => ∃ d, x = .d d ∧ topD d = true ∧ k ν1 (.d (.bool (isNone d)))) : QCmp W ν Γ .Is a (.Constant .none j pos') k := fun σ H Q r K => by
  refine wpc_of (pc_isN pe_wp) ?_
  refine h σ H _ r fun v H1 x r1 e1 i1 f1 _ ⟨d, ex, od, hk⟩ => ?_
  subst ex
  have := Im.non_iff od i1
  show Q (.bl (decide (v = .non))) H1
  rw [this]
  exact Kt.bl (K.step e1 r1) r1 hk
theorem c_notN {j pos'} (h : QE W ν Γ a fun ν1 x => ∃ d, x = .d d ∧ topD d = true ∧ k ν1 (.d (.bool (!isNone d)))) : QCmp W ν Γ .IsNot a (.Constant .none j pos') k := fun σ H Q r K => by
  refine wpc_of (pc_notN pe_wp) ?_
  refine h σ H _ r fun v H1 x r1 e1 i1 f1 _ ⟨d, ex, od, hk⟩ => ?_
  subst ex
  have := Im.non_iff od i1
  show Q (.bl (!decide (v = .non))) H1
  rw [this]
  exact Kt.bl (K.step e1 r1) r1 hk
/-- a comparison as a value -/
theorem q_cv {op : CmpOp} (h : QCmp W ν Γ op a b k) (hm : behindInMarks op b = false := by first | exact nobehind _ (by decide) (by decide) | rfl) : QE W ν Γ (.Compare a [op] [b] pos) k := fun σ H Q r K => wp_of (pe_cmp pc_wp hm) (h σ H Q r K)
end
end QL

/-! Q3: arguments, displays, tests, subscripts, slices, built-ins. -/
namespace QL
open PySem PySem.Spec PyProof.Rows L2
/-! ### arguments -/
structure wpA (X : Cx) (es : List Expr) (σ : L2.St) (H : Hp) (Q : List V → Hp → Prop) : Prop where
  run : ∀ (pos : Pos) (pins : List (Addr × Obj)) (s : Shared), Inv X pins σ H s → wpAny (model X.prog X.w) X.A (spliced (backTo pos (starEach es X.env))) (AP X pins σ Q) X.xe s
theorem pa_wp {X : Cx} {es : List Expr} : PA X es (wpA X es) := ⟨fun pos pins s σ H Q I h => h.run pos pins s I⟩
theorem wpa_of {X : Cx} {es : List Expr} {t : TA} {σ : L2.St} {H : Hp} {Q : List V → Hp → Prop} (h : PA X es t) (q : t σ H Q) : wpA X es σ H Q := ⟨fun pos pins s I => h.run pos pins s σ H Q I q⟩
def IsAll (W : Wx) (Γ : Ga) (H : Hp) : List V → List Sl → Prop := Paired fun v z => W.Is H v z ∧ Fr W Γ z
/-- new objects, each another one -/
structure NewAll (H : Hp) (zs : List Sl) : Prop where
  new : ∀ a, a ∈ zs.filterMap frA → H a = none
  nd : (zs.filterMap frA).Nodup
def QA (W : Wx) (ν : Nat) (Γ : Ga) (es : List Expr) (kk : Nat → List Sl → Prop) : Prop := ∀ σ H Q, W.Rs ν σ Γ H → (∀ {ν : Nat} vs H' zs, W.Rs ν σ Γ H' → Ext W.c H H' → IsAll W Γ H' vs zs → NewAll H zs → kk ν zs → Q vs H') → wpA W.X es σ H Q
section
variable {ν ν' : Nat} {W : Wx} {σ : L2.St} {Γ : Ga} {H H1 H2 : Hp} {k k' : Nat → Sl → Prop} {Q : VK} {z : Sl} {v : V} {a b e c : Expr} {es rest : List Expr} {x : D} {pos p0 p1 p2 : Pos} {p : Addr} {kk : Nat → List Sl → Prop} {kb kb' : Nat → Bool → Prop}
theorem IsAll.ext {vs : List V} {zs : List Sl} (i : IsAll W Γ H vs zs) (r : W.Rs ν σ Γ H) (e : Ext W.c H H1) : IsAll W Γ H1 vs zs := Paired.mapP i fun v z h => ⟨h.1.over h.2 r e, h.2⟩
theorem qa_nil (h : kk ν []) : QA W ν Γ [] kk := fun σ H Q r K => wpa_of pa_nil (show tNil σ H Q from K [] H [] r .refl .nil ⟨fun _ h => (nomatch h), List.nodup_nil⟩ h)
/-- a result that is new stands -/
theorem Is.there (i : W.Is H v z) {a : Addr} (h : frA z = some a) : H a ≠ none := by
  cases z with
  | f b xs =>
    cases h
    obtain ⟨_, vs, h1, _⟩ := i
    intro q
    rw [h1] at q
    cases q
  | fk b xs =>
    cases h
    obtain ⟨_, vs, h1, _⟩ := i
    intro q
    rw [h1] at q
    cases q
  | _ => cases h
theorem NewAll.cons {zs : List Sl} (e : Ext W.c H H1) (r : W.Rs ν σ Γ H1) (n : NewAt H z) (i : W.Is H1 v z) (t : NewAll H1 zs) : NewAll H (z :: zs) := by
  cases hz : frA z with
  | none =>
    have e1 : (z :: zs).filterMap frA = zs.filterMap frA := by rw [List.filterMap_cons, hz]
    exact ⟨fun a ha => e.fresh r.st (t.new a (by rw [← e1]; exact ha)), by rw [e1]; exact t.nd⟩
  | some b =>
    have e1 : (z :: zs).filterMap frA = b :: zs.filterMap frA := by rw [List.filterMap_cons, hz]
    refine ⟨fun a ha => ?_, ?_⟩
    · rw [e1] at ha
      rcases List.mem_cons.mp ha with ha | ha
      · rw [ha]
        exact n b hz
      · exact e.fresh r.st (t.new a ha)
    · rw [e1]
      exact List.nodup_cons.mpr ⟨fun m => Is.there i hz (t.new b m), t.nd⟩
theorem qa_cons (h : QE W ν Γ e fun ν1 z => QA W ν1 Γ es fun ν2 zs => kk ν2 (z :: zs)) (hs : starEach (e :: es) W.X.env = (false, eval e W.X.env) :: starEach es W.X.env := by rfl) : QA W ν Γ (e :: es) kk := fun σ H Q r K => by
  refine wpa_of (pa_cons pe_wp pa_wp hs) ?_
  refine h σ H _ r fun v H1 z r1 e1 i1 f1 n1 h1 => ?_
  refine h1 σ H1 _ r1 fun vs H2 zs r2 e2 i2 n2 h2 => ?_
  exact K (v :: vs) H2 (z :: zs) r2 (e1.trans e2) (.cons ⟨i1.over f1 r1 e2, f1⟩ i2) (.cons e1 r1 n1 i1 n2) h2
theorem QA.mono {kk' : Nat → List Sl → Prop} (h : QA W ν Γ es kk) (i : ∀ {ν : Nat} zs, kk ν zs → kk' ν zs) : QA W ν Γ es kk' := fun σ H Q r K => h σ H Q r fun vs H' zs r' e' i' n' h' => K vs H' zs r' e' i' n' (i zs h')
/-- what is written into a tuple: data, or a thing of which nothing is known -/
def datD : Sl → D
  | .d x => x
  | _ => .dict []
theorem Is.datD (i : W.Is H v z) : Im W.X.K H v (datD z) := by
  cases z with
  | d x => exact i
  | _ => exact .any v
def allD (zs : List Sl) : Option (List D) := some (zs.map datD)
theorem IsAll.im : ∀ {vs : List V} {zs : List Sl}, IsAll W Γ H vs zs → ImA W.X.K H vs (zs.map datD)
  | _, _, .nil => .nil
  | _, _, .cons q r => .cons (Is.datD q.1) (IsAll.im r)
theorem q_tup {x1} (h : QA W ν Γ es fun ν1 zs => ∃ ds, allD zs = some ds ∧ ds.length ≤ 1000 ∧ k ν1 (.d (.tuple ds))) : QE W ν Γ (.Tuple es x1 pos) k := fun σ H Q r K => by
  refine wp_of (pe_tup pa_wp) ?_
  refine h σ H _ r fun vs H1 zs r1 e1 i1 _ ⟨ds, hd, hl, hk⟩ => ?_
  have i2 : ImA W.X.K H1 vs ds := by
    cases hd
    exact i1.im
  refine ⟨?_, fun p hp => Kt.newT (K.step e1 r1) r1 hp i2 hk⟩
  rw [i2.length]
  exact Nat.le_trans hl (by decide)
theorem q_lst (h : QA W ν Γ es fun ν1 zs => ∃ ds, allD zs = some ds ∧ ds.length ≤ 1000 ∧ ∀ p, k ν1 (.f p ds)) : QE W ν Γ (.List es pos) k := fun σ H Q r K => by
  refine wp_of (pe_lst pa_wp) ?_
  refine h σ H _ r fun vs H1 zs r1 e1 i1 _ ⟨ds, hd, hl, hk⟩ => ?_
  have i2 : ImA W.X.K H1 vs ds := by
    cases hd
    exact i1.im
  refine ⟨?_, fun p hp => Kt.newL (K.step e1 r1) r1 hp i2 (hk p)⟩
  rw [i2.length]
  exact Nat.le_trans hl (by decide)
/-! ### tests -/
structure wpT (X : Cx) (e : Expr) (σ : L2.St) (H : Hp) (Q : Bool → Hp → Prop) : Prop where
  run : ∀ (pins : List (Addr × Obj)) (s : Shared), Inv X pins σ H s → wpAny (model X.prog X.w) X.A (isTrue e X.env (eval e X.env)) (TP X pins σ Q) X.xe s
theorem pt_wp {X : Cx} {e : Expr} : PT X e (wpT X e) := ⟨fun pins s σ H Q I h => h.run pins s I⟩
theorem wpt_of {X : Cx} {e : Expr} {t : TT} {σ : L2.St} {H : Hp} {Q : Bool → Hp → Prop} (h : PT X e t) (q : t σ H Q) : wpT X e σ H Q := ⟨fun pins s I => h.run pins s σ H Q I q⟩
structure wpW (X : Cx) (e : Expr) (σ : L2.St) (H : Hp) (Q : Bool → Hp → Prop) : Prop where
  run : ∀ (whole : Sem Value) (pins : List (Addr × Obj)) (s : Shared), Inv X pins σ H s → wpAny (model X.prog X.w) X.A (isTrue e X.env whole) (TP X pins σ Q) X.xe s
theorem pw_wp {X : Cx} {e : Expr} : PW X e (wpW X e) := ⟨fun whole pins s σ H Q I h => h.run whole pins s I⟩
theorem wpw_of {X : Cx} {e : Expr} {t : TT} {σ : L2.St} {H : Hp} {Q : Bool → Hp → Prop} (h : PW X e t) (q : t σ H Q) : wpW X e σ H Q := ⟨fun whole pins s I => h.run whole pins s σ H Q I q⟩
def QTw (W : Wx) (ν : Nat) (Γ : Ga) (wp : TT) (kb : Nat → Bool → Prop) : Prop := ∀ σ H Q, W.Rs ν σ Γ H → (∀ {ν : Nat} b H', W.Rs ν σ Γ H' → Ext W.c H H' → kb ν b → Q b H') → wp σ H Q
abbrev QT (W : Wx) (ν : Nat) (Γ : Ga) (e : Expr) (kb : Nat → Bool → Prop) : Prop := QTw W ν Γ (wpT W.X e) kb
abbrev QW (W : Wx) (ν : Nat) (Γ : Ga) (e : Expr) (kb : Nat → Bool → Prop) : Prop := QTw W ν Γ (wpW W.X e) kb
theorem qt_v (h : QE W ν Γ e fun ν1 x => ∃ b, x = .d (.bool b) ∧ kb ν1 b) (he : ∀ whole, isTrue e W.X.env whole = (do let v ← whole; standAt e.pos; holding [v] (truthy v)) := by intro _; rfl) : QT W ν Γ e kb := fun σ H Q r K => by
  refine wpt_of (pt_val pe_wp he) ?_
  refine h σ H _ r fun v H1 x r1 e1 i1 f1 _ ⟨b, ex, hk⟩ => ?_
  subst ex
  rw [Im.blI i1]
  exact ⟨b, rfl, K b H1 r1 e1 hk⟩
/-- a comparison as a test -/
theorem qt_cv {op : CmpOp} (h : QCmp W ν Γ op a b fun ν1 x => ∃ b, x = .d (.bool b) ∧ kb ν1 b) (hm : behindInMarks op b = false := by first | exact nobehind _ (by decide) (by decide) | rfl) : QT W ν Γ (.Compare a [op] [b] pos) kb := fun σ H Q r K => by
  refine wpt_of (pt_cmp pc_wp hm) ?_
  refine h σ H _ r fun v H1 x r1 e1 i1 f1 _ ⟨b, ex, hk⟩ => ?_
  subst ex
  rw [Im.blI i1]
  exact ⟨b, rfl, K b H1 r1 e1 hk⟩
theorem qt_w (h : QW W ν Γ e kb) : QT W ν Γ e kb := fun σ H Q r K => wpt_of (PW.pt pw_wp) (h σ H Q r K)
theorem qw_and1 (h : QT W ν Γ a kb) : QW W ν Γ (.BoolOp .And [a] pos) kb := fun σ H Q r K => wpw_of (pw_and1 pt_wp) (h σ H Q r K)
theorem qw_or1 (h : QT W ν Γ a kb) : QW W ν Γ (.BoolOp .Or [a] pos) kb := fun σ H Q r K => wpw_of (pw_or1 pt_wp) (h σ H Q r K)
theorem qw_and (h : QT W ν Γ a fun ν1 c => (c = true → QW W ν1 Γ (.BoolOp .And (b :: rest) pos) kb) ∧ (c = false → kb ν1 false)) : QW W ν Γ (.BoolOp .And (a :: b :: rest) pos) kb := fun σ H Q r K => by
  refine wpw_of (pw_and pt_wp pw_wp) ?_
  refine h σ H _ r fun c H1 r1 e1 h1 => ?_
  cases c with
  | true =>
    show wpW W.X _ σ H1 Q
    exact h1.1 rfl σ H1 Q r1 fun b H2 r2 e2 h2 => K b H2 r2 (e1.trans e2) h2
  | false =>
    show Q false H1
    exact K false H1 r1 e1 (h1.2 rfl)
theorem qw_or (h : QT W ν Γ a fun ν1 c => (c = true → kb ν1 true) ∧ (c = false → QW W ν1 Γ (.BoolOp .Or (b :: rest) pos) kb)) : QW W ν Γ (.BoolOp .Or (a :: b :: rest) pos) kb := fun σ H Q r K => by
  refine wpw_of (pw_or pt_wp pw_wp) ?_
  refine h σ H _ r fun c H1 r1 e1 h1 => ?_
  cases c with
  | false =>
    show wpW W.X _ σ H1 Q
    exact h1.2 rfl σ H1 Q r1 fun b H2 r2 e2 h2 => K b H2 r2 (e1.trans e2) h2
  | true =>
    show Q true H1
    exact K true H1 r1 e1 (h1.1 rfl)
theorem qw_andT (h : QT W ν Γ a fun ν1 c => c = true ∧ QW W ν1 Γ (.BoolOp .And (b :: rest) pos) kb) : QW W ν Γ (.BoolOp .And (a :: b :: rest) pos) kb :=
  qw_and fun σ H Q r K => h σ H Q r fun c H' r' e' q => K c H' r' e' ⟨fun _ => q.2, fun hc => (by rw [q.1] at hc; cases hc)⟩
theorem qw_orF (h : QT W ν Γ a fun ν1 c => c = false ∧ QW W ν1 Γ (.BoolOp .Or (b :: rest) pos) kb) : QW W ν Γ (.BoolOp .Or (a :: b :: rest) pos) kb :=
  qw_or fun σ H Q r K => h σ H Q r fun c H' r' e' q => K c H' r' e' ⟨fun hc => (by rw [q.1] at hc; cases hc), fun _ => q.2⟩
theorem qw_andF1 (h : QT W ν Γ a fun ν1 c => c = false ∧ kb ν1 false) : QW W ν Γ (.BoolOp .And (a :: b :: rest) pos) kb :=
  qw_and fun σ H Q r K => h σ H Q r fun c H' r' e' q => K c H' r' e' ⟨fun hc => (by rw [q.1] at hc; cases hc), fun _ => q.2⟩
theorem qw_orT1 (h : QT W ν Γ a fun ν1 c => c = true ∧ kb ν1 true) : QW W ν Γ (.BoolOp .Or (a :: b :: rest) pos) kb :=
  qw_or fun σ H Q r K => h σ H Q r fun c H' r' e' q => K c H' r' e' ⟨fun _ => q.2, fun hc => (by rw [q.1] at hc; cases hc)⟩
theorem qt_not (h : QT W ν Γ a fun ν1 c => kb ν1 (!c)) : QT W ν Γ (.UnaryOp .Not a pos) kb := fun σ H Q r K => wpt_of (pt_not pt_wp) (h σ H _ r fun c H1 r1 e1 h1 => K (!c) H1 r1 e1 h1)
theorem QT.mono (h : QT W ν Γ e kb) (i : ∀ {ν : Nat} b, kb ν b → kb' ν b) : QT W ν Γ e kb' := fun σ H Q r K => h σ H Q r fun c H' r' e' q => K c H' r' e' (i c q)
theorem qt_notF {Pk : Nat → Prop} (h : QT W ν Γ a fun ν1 c => c = true ∧ Pk ν1) : QT W ν Γ (.UnaryOp .Not a pos) fun ν1 c => c = false ∧ Pk ν1 := by
  refine qt_not (QT.mono h ?_)
  rintro ν1 c ⟨rfl, q⟩
  exact ⟨rfl, q⟩
theorem qt_notT {Pk : Nat → Prop} (h : QT W ν Γ a fun ν1 c => c = false ∧ Pk ν1) : QT W ν Γ (.UnaryOp .Not a pos) fun ν1 c => c = true ∧ Pk ν1 := by
  refine qt_not (QT.mono h ?_)
  rintro ν1 c ⟨rfl, q⟩
  exact ⟨rfl, q⟩
/-- and, or, not as values, of bools -/
theorem q_one {op} (h : QE W ν Γ a k) : QE W ν Γ (.BoolOp op [a] pos) k := fun σ H Q r K => wp_of (pe_one pe_wp) (h σ H Q r K)
theorem q_and (h : QE W ν Γ a fun ν1 x => ∃ c, x = .d (.bool c) ∧ (c = true → QE W ν1 Γ (.BoolOp .And (b :: rest) pos) k) ∧ (c = false → k ν1 (.d (.bool false)))) : QE W ν Γ (.BoolOp .And (a :: b :: rest) pos) k := fun σ H Q r K => by
  refine wp_of (pe_and pe_wp pe_wp) ?_
  refine h σ H _ r fun v H1 x r1 e1 i1 f1 _ ⟨c, ex, h1, h2⟩ => ?_
  subst ex
  rw [Im.blI i1]
  refine ⟨c, rfl, ?_⟩
  cases c with
  | true =>
    show wpE W.X _ σ H1 Q
    exact h1 rfl σ H1 Q r1 (K.step e1 r1)
  | false =>
    show Q (.bl false) H1
    exact Kt.bl (K.step e1 r1) r1 (h2 rfl)
theorem q_or (h : QE W ν Γ a fun ν1 x => ∃ c, x = .d (.bool c) ∧ (c = true → k ν1 (.d (.bool true))) ∧ (c = false → QE W ν1 Γ (.BoolOp .Or (b :: rest) pos) k)) : QE W ν Γ (.BoolOp .Or (a :: b :: rest) pos) k := fun σ H Q r K => by
  refine wp_of (pe_or pe_wp pe_wp) ?_
  refine h σ H _ r fun v H1 x r1 e1 i1 f1 _ ⟨c, ex, h1, h2⟩ => ?_
  subst ex
  rw [Im.blI i1]
  refine ⟨c, rfl, ?_⟩
  cases c with
  | false =>
    show wpE W.X _ σ H1 Q
    exact h2 rfl σ H1 Q r1 (K.step e1 r1)
  | true =>
    show Q (.bl true) H1
    exact Kt.bl (K.step e1 r1) r1 (h1 rfl)
theorem q_not (h : QE W ν Γ a fun ν1 x => ∃ c, x = .d (.bool c) ∧ k ν1 (.d (.bool (!c)))) : QE W ν Γ (.UnaryOp .Not a pos) k := fun σ H Q r K => by
  refine wp_of (pe_not pe_wp) ?_
  refine h σ H _ r fun v H1 x r1 e1 i1 f1 _ ⟨c, ex, h1⟩ => ?_
  subst ex
  rw [Im.blI i1]
  exact ⟨c, rfl, Kt.bl (K.step e1 r1) r1 h1⟩
theorem q_ife {t : Expr} (h : QT W ν Γ t fun ν1 c => (c = true → QE W ν1 Γ a k) ∧ (c = false → QE W ν1 Γ b k)) : QE W ν Γ (.IfExp t a b pos) k := fun σ H Q r K => by
  refine wp_of (pe_ifExp pt_wp pe_wp pe_wp) ?_
  refine h σ H _ r fun c H1 r1 e1 h1 => ?_
  cases c with
  | true =>
    show wpE W.X a σ H1 Q
    exact h1.1 rfl σ H1 Q r1 (K.step e1 r1)
  | false =>
    show wpE W.X b σ H1 Q
    exact h1.2 rfl σ H1 Q r1 (K.step e1 r1)
/-- a < b < c of ints -/
theorem q_chain {op op' : CmpOp} {g g' : Int → Int → Bool} (ho : OpR W.X (compareOp op) (rI0 fun i j => .bl (g i j))) (ho' : OpR W.X (compareOp op') (rI0 fun i j => .bl (g' i j))) (hm : lastMarks [op, op'] [b, c] = false)
    (h : QE W ν Γ a fun ν1 x => ∃ i, x = .d (.int i) ∧ QE W ν1 Γ b fun ν2 y => ∃ j, y = .d (.int j) ∧ (g i j = true → QE W ν2 Γ c fun ν3 z => ∃ l, z = .d (.int l) ∧ k ν3 (.d (.bool (g' j l)))) ∧ (g i j = false → k ν2 (.d (.bool false)))) : QE W ν Γ (.Compare a [op, op'] [b, c] pos) k := fun σ H Q r K => by
  refine wp_of (pe_chain ho ho' pe_wp pe_wp pe_wp hm) ?_
  refine h σ H _ r fun v H1 x r1 e1 i1 f1 _ ⟨i, ex, q1⟩ => ?_
  subst ex
  refine q1 σ H1 _ r1 fun u H2 y r2 e2 i2 f2 _ ⟨j, ey, q2, q3⟩ => ?_
  subst ey
  have e12 := e1.trans e2
  rw [Im.intI i1, Im.intI i2]
  refine ⟨i, j, rfl, rfl, g i j, rfl, ?_⟩
  cases hg : g i j with
  | true =>
    show wpE W.X c σ H2 _
    refine q2 hg σ H2 _ r2 fun w H3 z r3 e3 i3 f3 _ ⟨l, ez, hk⟩ => ?_
    subst ez
    rw [Im.intI i3]
    exact ⟨j, l, rfl, rfl, Kt.bl (K.step (e12.trans e3) r3) r3 hk⟩
  | false =>
    show Q (.bl false) H2
    exact Kt.bl (K.step e12 r2) r2 (q3 hg)
theorem qt_chain {op op' : CmpOp} {g g' : Int → Int → Bool} (ho : OpR W.X (compareOp op) (rI0 fun i j => .bl (g i j))) (ho' : OpR W.X (compareOp op') (rI0 fun i j => .bl (g' i j))) (hm : lastMarks [op, op'] [b, c] = false)
    (h : QE W ν Γ a fun ν1 x => ∃ i, x = .d (.int i) ∧ QE W ν1 Γ b fun ν2 y => ∃ j, y = .d (.int j) ∧ (g i j = true → QE W ν2 Γ c fun ν3 z => ∃ l, z = .d (.int l) ∧ kb ν3 (g' j l)) ∧ (g i j = false → kb ν2 false)) : QT W ν Γ (.Compare a [op, op'] [b, c] pos) kb := fun σ H Q r K => by
  refine wpt_of (pt_chain ho ho' pe_wp pe_wp pe_wp hm) ?_
  refine h σ H _ r fun v H1 x r1 e1 i1 f1 _ ⟨i, ex, q1⟩ => ?_
  subst ex
  refine q1 σ H1 _ r1 fun u H2 y r2 e2 i2 f2 _ ⟨j, ey, q2, q3⟩ => ?_
  subst ey
  have e12 := e1.trans e2
  rw [Im.intI i1, Im.intI i2]
  refine ⟨i, j, rfl, rfl, g i j, rfl, ?_⟩
  cases hg : g i j with
  | true =>
    show wpE W.X c σ H2 _
    refine q2 hg σ H2 _ r2 fun w H3 z r3 e3 i3 f3 _ ⟨l, ez, hk⟩ => ?_
    subst ez
    rw [Im.intI i3]
    exact ⟨j, l, rfl, rfl, g' j l, rfl, K (g' j l) H3 r3 (e12.trans e3) hk⟩
  | false =>
    exact ⟨false, rfl, K false H2 r2 e12 (q3 hg)⟩
/-! ### subscripts -/
theorem atI_im {K : PySem.W.Frag} {vs : List V} {ds : List D} {i : Int} {d : D} (h : ImA K H vs ds) (e : atI ds i = some d) : ∃ v, atI vs i = some v ∧ Im K H v d := by
  unfold atI at e ⊢
  rw [h.length]
  cases hx : ixN ds.length i with
  | none =>
    rw [hx] at e
    cases e
  | some j =>
    rw [hx] at e
    obtain ⟨v, h1, h2⟩ := h.get (show ds[j]? = some d from e)
    exact ⟨v, h1, h2⟩
theorem q_ix (h : QE W ν Γ a fun ν1 x => ∃ ds, x = .d (.tuple ds) ∧ QE W ν1 Γ b fun ν2 y => ∃ i d, y = .d (.int i) ∧ atI ds i = some d ∧ k ν2 (.d d)) (hs : PlainIx b := by exact fun _ _ => rfl) : QE W ν Γ (.Subscript a b pos) k := by
  refine q_two (pe_ix ix_tup pe_wp pe_wp hs) (fun μ x y => ∃ ds, x = .d (.tuple ds) ∧ ∃ i d, y = .d (.int i) ∧ atI ds i = some d ∧ k μ (.d d)) ?_ ?_
  · rintro μ x y ⟨ds, rfl, i, d, rfl, hd, hk⟩ σ H v u Q r i1 i2 _ _ K
    obtain ⟨a, vs, rfl, s1, s2⟩ := Im.tupI i1
    rw [Im.intI i2]
    obtain ⟨w, h1, h2⟩ := atI_im s2 hd
    exact ⟨a, vs, i, w, rfl, rfl, s1, h1, K.dat r h2 hk⟩
  · exact h.mono fun x ⟨ds, e, q⟩ => q.mono fun y q2 => ⟨ds, e, q2⟩
/-- a list's items -/
def lsOf : Sl → Option (List D)
  | .o _ xs => some xs
  | .f _ xs => some xs
  | .b xs => some xs
  | _ => none
theorem Is.lst {xs : List D} (i : W.Is H v z) (r : W.Rs ν σ Γ H) (h : lsOf z = some xs) : ∃ a vs, v = .ref a ∧ SqL W.X.K H a vs ∧ ImA W.X.K H vs xs := by
  cases z with
  | o a ys =>
    cases h
    obtain ⟨rfl, vs, h1, h2⟩ := i
    exact ⟨a, vs, rfl, .inl (.inl h1), h2⟩
  | f a ys =>
    cases h
    obtain ⟨rfl, vs, h1, h2⟩ := i
    exact ⟨a, vs, rfl, .inl (.inl h1), h2⟩
  | b ys =>
    cases h
    obtain ⟨a, vs, rfl, h1, h2, h3⟩ := i
    exact ⟨a, vs, rfl, r.ext.sqL h3 h1, h2⟩
  | _ => cases h
theorem q_ixL (h : QE W ν Γ a fun ν1 x => ∃ ds, lsOf x = some ds ∧ QE W ν1 Γ b fun ν2 y => ∃ i d, y = .d (.int i) ∧ atI ds i = some d ∧ k ν2 (.d d)) (hs : PlainIx b := by exact fun _ _ => rfl) : QE W ν Γ (.Subscript a b pos) k := by
  refine q_two (pe_ix ix_list pe_wp pe_wp hs) (fun μ x y => ∃ ds, lsOf x = some ds ∧ ∃ i d, y = .d (.int i) ∧ atI ds i = some d ∧ k μ (.d d)) ?_ ?_
  · rintro μ x y ⟨ds, hx, i, d, rfl, hd, hk⟩ σ H v u Q r i1 i2 _ _ K
    obtain ⟨a, vs, rfl, s1, s2⟩ := i1.lst r hx
    rw [Im.intI i2]
    obtain ⟨w, h1, h2⟩ := atI_im s2 hd
    exact ⟨a, vs, i, w, rfl, rfl, s1, h1, K.dat r h2 hk⟩
  · exact h.mono fun x ⟨ds, e, q⟩ => q.mono fun y q2 => ⟨ds, e, q2⟩
/-! ### slices -/
def wpO (X : Cx) (o : Option Expr) : TO := fun σ H Q => ∃ t, PO X o t ∧ t σ H Q
theorem po_wp_none {X : Cx} {σ : L2.St} {H : Hp} {Q : Option Int → Hp → Prop} (h : Q none H) : wpO X none σ H Q := ⟨_, po_none, h⟩
def cutD (xs : List D) (lo hi : Option Int) : List D := (xs.drop (HT.sIx xs.length 0 lo)).take (HT.sIx xs.length xs.length hi - HT.sIx xs.length 0 lo)
theorem cut_im {K : PySem.W.Frag} {vs : List V} {ds : List D} {lo hi : Option Int} (h : ImA K H vs ds) : ImA K H (cutV vs lo hi) (cutD ds lo hi) := by
  unfold cutV cutD
  rw [h.length]
  exact (h.drop _).take _
theorem slT_go {lo hi : Option Int} {ds : List D} (r : W.Rs ν σ Γ H) (K : Kt W σ Γ H k Q) (i : W.Is H v (.d (.tuple ds))) (hk : k ν (.d (.tuple (cutD ds lo hi)))) : rSlA W.X.K v lo hi H Q := by
  obtain ⟨a, vs, rfl, s1, s2⟩ := Im.tupI i
  refine ⟨a, vs, rfl, s1, fun hw => ?_, fun hw p hp => K.newT r hp (cut_im s2) hk⟩
  have e : cutD ds lo hi = ds := by
    unfold cutD
    rw [s2.length] at hw
    rw [hw.1, hw.2, List.drop_zero, Nat.sub_zero, List.take_length]
  rw [e] at hk
  exact K.dat r (.tup s1 s2) hk
theorem q_sl00 (h : QE W ν Γ a fun ν1 x => ∃ ds, x = .d (.tuple ds) ∧ k ν1 (.d (.tuple (cutD ds none none)))) : QE W ν Γ (.Subscript a (.Slice none none none p2) pos) k := fun σ H Q r K => by
  refine wp_of (pe_slice sl_tupA pe_wp po_none po_none) ?_
  refine h σ H _ r fun v H1 x r1 e1 i1 f1 _ ⟨ds, ex, hk⟩ => ?_
  subst ex
  exact slT_go r1 (K.step e1 r1) i1 hk
theorem q_sl10 {lo : Expr} (h : QE W ν Γ a fun ν1 x => ∃ ds, x = .d (.tuple ds) ∧ QE W ν1 Γ lo fun ν2 y => ∃ i, y = .d (.int i) ∧ k ν2 (.d (.tuple (cutD ds (some i) none)))) : QE W ν Γ (.Subscript a (.Slice (some lo) none none p2) pos) k := fun σ H Q r K => by
  refine wp_of (pe_slice sl_tupA pe_wp (po_some pe_wp) po_none) ?_
  refine h σ H _ r fun v H1 x r1 e1 i1 f1 _ ⟨ds, ex, q1⟩ => ?_
  subst ex
  refine q1 σ H1 _ r1 fun u H2 y r2 e2 i2 f2 _ ⟨i, ey, hk⟩ => ?_
  subst ey
  rw [Im.intI i2]
  exact ⟨i, rfl, slT_go r2 (K.step (e1.trans e2) r2) (i1.over f1 r1 e2) hk⟩
theorem q_sl01 {hi : Expr} (h : QE W ν Γ a fun ν1 x => ∃ ds, x = .d (.tuple ds) ∧ QE W ν1 Γ hi fun ν2 y => ∃ i, y = .d (.int i) ∧ k ν2 (.d (.tuple (cutD ds none (some i))))) : QE W ν Γ (.Subscript a (.Slice none (some hi) none p2) pos) k := fun σ H Q r K => by
  refine wp_of (pe_slice sl_tupA pe_wp po_none (po_some pe_wp)) ?_
  refine h σ H _ r fun v H1 x r1 e1 i1 f1 _ ⟨ds, ex, q1⟩ => ?_
  subst ex
  refine q1 σ H1 _ r1 fun u H2 y r2 e2 i2 f2 _ ⟨i, ey, hk⟩ => ?_
  subst ey
  rw [Im.intI i2]
  exact ⟨i, rfl, slT_go r2 (K.step (e1.trans e2) r2) (i1.over f1 r1 e2) hk⟩
theorem q_sl11 {lo hi : Expr} (h : QE W ν Γ a fun ν1 x => ∃ ds, x = .d (.tuple ds) ∧ QE W ν1 Γ lo fun ν2 y => ∃ i, y = .d (.int i) ∧ QE W ν2 Γ hi fun ν3 y => ∃ j, y = .d (.int j) ∧ k ν3 (.d (.tuple (cutD ds (some i) (some j))))) : QE W ν Γ (.Subscript a (.Slice (some lo) (some hi) none p2) pos) k := fun σ H Q r K => by
  refine wp_of (pe_slice sl_tupA pe_wp (po_some pe_wp) (po_some pe_wp)) ?_
  refine h σ H _ r fun v H1 x r1 e1 i1 f1 _ ⟨ds, ex, q1⟩ => ?_
  subst ex
  refine q1 σ H1 _ r1 fun u H2 y r2 e2 i2 f2 _ ⟨i, ey, q2⟩ => ?_
  subst ey
  rw [Im.intI i2]
  refine ⟨i, rfl, q2 σ H2 _ r2 fun w H3 y r3 e3 i3 f3 _ ⟨j, ez, hk⟩ => ?_⟩
  subst ez
  rw [Im.intI i3]
  exact ⟨j, rfl, slT_go r3 (K.step ((e1.trans e2).trans e3) r3) ((i1.over f1 r1 e2).over f1 r2 e3) hk⟩
/-- xs[lo:] of a list -/
theorem q_slL10 {lo : Expr} (h : QE W ν Γ a fun ν1 x => ∃ ds, lsOf x = some ds ∧ QE W ν1 Γ lo fun ν2 y => ∃ i, y = .d (.int i) ∧ ∀ p, k ν2 (.f p (cutD ds (some i) none))) : QE W ν Γ (.Subscript a (.Slice (some lo) none none p2) pos) k := fun σ H Q r K => by
  refine wp_of (pe_slice sl_list pe_wp (po_some pe_wp) po_none) ?_
  refine h σ H _ r fun v H1 x r1 e1 i1 f1 _ ⟨ds, hx, q1⟩ => ?_
  refine q1 σ H1 _ r1 fun u H2 y r2 e2 i2 f2 _ ⟨i, ey, hk⟩ => ?_
  subst ey
  rw [Im.intI i2]
  obtain ⟨a, vs, rfl, s1, s2⟩ := (i1.over f1 r1 e2).lst r2 hx
  exact ⟨i, rfl, a, vs, rfl, s1, fun p hp => Kt.newL (K.step (e1.trans e2) r2) r2 hp (cut_im s2) (hk p)⟩
/-! ### sums of tuples and lists, repetition -/
theorem q_cat (h : QE W ν Γ a fun ν1 x => ∃ ds, x = .d (.tuple ds) ∧ QE W ν1 Γ b fun ν2 y => ∃ es, y = .d (.tuple es) ∧ ds.length + es.length ≤ 1000 ∧ k ν2 (.d (.tuple (ds ++ es)))) : QE W ν Γ (.BinOp a .Add b pos) k := by
  refine q_two (pe_op op_catA pe_wp pe_wp) (fun μ x y => ∃ ds es, x = .d (.tuple ds) ∧ y = .d (.tuple es) ∧ ds.length + es.length ≤ 1000 ∧ k μ (.d (.tuple (ds ++ es)))) ?_ ?_
  · rintro μ x y ⟨ds, es, rfl, rfl, hl, hk⟩ σ H v u Q r i1 i2 _ _ K
    obtain ⟨a, vs, rfl, s1, s2⟩ := Im.tupI i1
    obtain ⟨b, us, rfl, t1, t2⟩ := Im.tupI i2
    refine ⟨a, b, vs, us, rfl, rfl, s1, t1, ?_, fun e => ?_, fun _ e => ?_, fun _ _ p hp => K.newT r hp (s2.app t2) hk⟩
    · rw [s2.length, t2.length]
      exact Nat.le_trans hl (by decide)
    · subst e
      cases s2
      exact K.dat r (.tup t1 t2) hk
    · subst e
      cases t2
      rw [List.append_nil] at hk
      exact K.dat r (.tup s1 s2) hk
  · exact h.mono fun x ⟨ds, e, q⟩ => q.mono fun y ⟨es, e2, q2⟩ => ⟨ds, es, e, e2, q2⟩
theorem Is.own {xs : List D} (i : W.Is H v z) (h : lsOf z = some xs) (hb : ∀ ys, z ≠ .b ys) : ∃ a vs, v = .ref a ∧ H a = some (.lst vs) ∧ ImA W.X.K H vs xs := by
  cases z with
  | o a ys =>
    cases h
    obtain ⟨rfl, vs, h1, h2⟩ := i
    exact ⟨a, vs, rfl, h1, h2⟩
  | f a ys =>
    cases h
    obtain ⟨rfl, vs, h1, h2⟩ := i
    exact ⟨a, vs, rfl, h1, h2⟩
  | b ys => exact absurd rfl (hb ys)
  | _ => cases h
theorem q_catL (h : QE W ν Γ a fun ν1 x => ∃ ds, (lsOf x = some ds ∧ ∀ ys, x ≠ .b ys) ∧ QE W ν1 Γ b fun ν2 y => ∃ es, (lsOf y = some es ∧ ∀ ys, y ≠ .b ys) ∧ ds.length + es.length ≤ 1000 ∧ ∀ p, k ν2 (.f p (ds ++ es))) : QE W ν Γ (.BinOp a .Add b pos) k := by
  refine q_two (pe_op op_cat pe_wp pe_wp) (fun μ x y => ∃ ds es, (lsOf x = some ds ∧ ∀ ys, x ≠ .b ys) ∧ (lsOf y = some es ∧ ∀ ys, y ≠ .b ys) ∧ ds.length + es.length ≤ 1000 ∧ ∀ p, k μ (.f p (ds ++ es))) ?_ ?_
  · rintro μ x y ⟨ds, es, hx, hy, hl, hk⟩ σ H v u Q r i1 i2 _ _ K
    obtain ⟨a, vs, rfl, s1, s2⟩ := i1.own hx.1 hx.2
    obtain ⟨b, us, rfl, t1, t2⟩ := i2.own hy.1 hy.2
    refine ⟨a, b, vs, us, rfl, rfl, s1, t1, ?_, fun p hp => K.newL r hp (s2.app t2) (hk p)⟩
    rw [s2.length, t2.length]
    exact Nat.le_trans hl (by decide)
  · exact h.mono fun x ⟨ds, e, q⟩ => q.mono fun y ⟨es, e2, q2⟩ => ⟨ds, es, e, e2, q2⟩
/-- [x] * n -/
theorem q_rep (h : QE W ν Γ a fun ν1 x => ∃ d, (lsOf x = some [d] ∧ ∀ ys, x ≠ .b ys) ∧ QE W ν1 Γ b fun ν2 y => ∃ n : Nat, y = .d (.int (n : Int)) ∧ n ≤ 1000 ∧ ∀ p, k ν2 (.f p (List.replicate n d))) : QE W ν Γ (.BinOp a .Mult b pos) k := by
  refine q_two (pe_op op_rep pe_wp pe_wp) (fun μ x y => ∃ d, (lsOf x = some [d] ∧ ∀ ys, x ≠ .b ys) ∧ ∃ n : Nat, y = .d (.int (n : Int)) ∧ n ≤ 1000 ∧ ∀ p, k μ (.f p (List.replicate n d))) ?_ ?_
  · rintro μ x y ⟨d, hx, n, rfl, hl, hk⟩ σ H v u Q r i1 i2 _ _ K
    obtain ⟨a, vs, rfl, s1, s2⟩ := i1.own hx.1 hx.2
    rw [Im.intI i2]
    obtain ⟨w, rfl, hw⟩ : ∃ w, vs = [w] ∧ Im W.X.K H w d := by
      cases s2 with
      | cons q r =>
        cases r
        exact ⟨_, rfl, q⟩
    refine ⟨a, (n : Int), [w], rfl, rfl, s1, by omega, by omega, ?_, ?_⟩
    · rw [Int.toNat_natCast]
      show 1 * n ≤ sizeLine
      exact Nat.le_trans (by omega : 1 * n ≤ 1000) (by decide)
    · intro p hp
      have e : ∀ n : Nat, (List.replicate n [w]).flatten = List.replicate n w := fun n => by
        induction n with
        | zero => rfl
        | succ n ih =>
          rw [List.replicate_succ, List.flatten_cons, ih, List.replicate_succ]
          rfl
      have := K.newL r hp (vs := List.replicate n w) (ImA.replicate hw n) (hk p)
      rw [← e n] at this
      simpa using this
  · exact h.mono fun x ⟨ds, e, q⟩ => q.mono fun y q2 => ⟨ds, e, q2⟩
end
end QL

/-! Q4: calls, built-ins, fields, dicts. -/
namespace QL
open PySem PySem.Spec PyProof.Rows L2
/-! ### what a def promises, over data -/
abbrev Spc := Nat → List Sl → (Nat → Sl → Prop) → Prop
def isRet : Sl → Bool
  | .d _ => true
  | .f _ _ => true
  | .fk _ _ => true
  | _ => false
def isArg : Sl → Bool
  | .d _ => true
  | .b _ => true
  | .h _ _ => true
  | .s => true
  | .v _ => true
  | _ => false
def spQ (K : PySem.W.Frag) (C : Addr) (spec : Spc) : Sp := fun vs H Q _ => ∃ (ν : Nat) (st : Option SA) (as : List Sl) (k : Nat → Sl → Prop), StOk ⟨C, st⟩ ν H ∧ Paired (fun v z => Is K ⟨C, st⟩ H H v z ∧ isArg z = true) vs as ∧ spec ν as k ∧
  ∀ {ν : Nat} v H' z, Ext ⟨C, st⟩ H H' → StOk ⟨C, st⟩ ν H' → Is K ⟨C, st⟩ H H' v z → isRet z = true → (∀ a, frA z = some a → H a = none) → k ν z → Q v H'
/-- a def stands, and keeps its promise -/
structure FnG (P : Program) (w : World) (K : PySem.W.Frag) (mg : Str → Option Value) (base : Heap) (C : Addr) (lev : Nat) (x : Str) (ps : List Str) (spec : Spc) : Prop where
  ex : ∃ f fd, FnOk P w K mg base CX0 lev f fd ps (spQ K C spec) ∧ mg x = some (.ref f) ∧ PySem.W.keepIn K (.ref f) = true ∧ Binds K fd ps []
abbrev FnX (X : Cx) (C : Addr) (lev : Nat) (x : Str) (ps : List Str) (spec : Spc) : Prop := FnG X.prog X.w X.K X.mg X.base C lev x ps spec
def toArg : Sl → Sl
  | .o _ xs => .b xs
  | .f _ xs => .b xs
  | z => z
def okArg : Sl → Bool
  | .ok _ _ => false
  | .fk _ _ => false
  | _ => true
section
variable {ν ν' : Nat} {W : Wx} {σ : L2.St} {Γ : Ga} {H H1 H2 : Hp} {k k' : Nat → Sl → Prop} {Q : VK} {z : Sl} {v : V} {a b e c : Expr} {es rest : List Expr} {x : D} {pos p0 p1 p2 p3 : Pos} {p : Addr} {kk : Nat → List Sl → Prop} {kb kb' : Nat → Bool → Prop}
theorem arg_is (r : W.Rs ν σ Γ H) (i : W.Is H v z) (f : Fr W Γ z) (h : okArg z = true) : Is W.X.K W.c H H v (toArg z) ∧ isArg (toArg z) = true := by
  cases z with
  | d x => exact ⟨i, rfl⟩
  | o a xs =>
    obtain ⟨rfl, vs, h1, h2⟩ := i
    exact ⟨⟨a, vs, rfl, .inl (.inl h1), h2, (f.nmt r).1 a rfl⟩, rfl⟩
  | f a xs =>
    obtain ⟨rfl, vs, h1, h2⟩ := i
    exact ⟨⟨a, vs, rfl, .inl (.inl h1), h2, (f.nmt r).2 a rfl⟩, rfl⟩
  | b xs =>
    obtain ⟨a, vs, rfl, h1, h2, h3⟩ := i
    exact ⟨⟨a, vs, rfl, r.ext.sqL h3 h1, h2, h3⟩, rfl⟩
  | h n d => exact ⟨i, rfl⟩
  | s => exact ⟨i, rfl⟩
  | v x => exact ⟨i, rfl⟩
  | ok a kvs => cases h
  | fk a kvs => cases h
theorem args_is (r : W.Rs ν σ Γ H) : ∀ {vs : List V} {zs : List Sl}, IsAll W Γ H vs zs → zs.all okArg = true → Paired (fun v z => Is W.X.K W.c H H v z ∧ isArg z = true) vs (zs.map toArg)
  | _, _, .nil, _ => .nil
  | _, _, .cons q t, h => by
    obtain ⟨h1, h2⟩ := Bool.and_eq_true_iff.mp (show (okArg _ && List.all _ okArg) = true from h)
    exact .cons (arg_is r q.1 q.2 h1) (args_is r t h2)
theorem q_call {lev : Nat} {nm : Str} {ps : List Str} {spec : Spc} (G : FnX W.X W.c.C lev nm ps spec) (hr : Room lev W.X.A) (h : QA W ν Γ (e :: es) fun ν1 zs => zs.all okArg = true ∧ spec ν1 (zs.map toArg) k) (hg : Gl W.X nm := by rfl) (hdb : (nm == ("__debug__" : Str)) = false := by decide)
    (he : starEach (e :: es) W.X.env = (false, eval e W.X.env) :: starEach es W.X.env := by rfl) (hpl : (backTo pos (starEach es W.X.env)).any (·.1) = false := by rfl) : QE W ν Γ (.Call (.Name nm p0) (e :: es) [] pos) k := fun σ H Q r K => by
  obtain ⟨f, fd, F, hm, hk, hb⟩ := G.ex
  refine wp_of (pe_call F hr hg hm hk hb .nil pass0 pa_wp hdb he hpl) ?_
  refine h σ H _ r fun vs H1 zs r1 e1 i1 _ ⟨ok, hs⟩ => ?_
  show spQ W.X.K W.c.C spec (vs ++ []) H1 Q E0
  rw [List.append_nil]
  refine ⟨_, W.c.st, zs.map toArg, k, r1.st, args_is r1 i1 ok, hs, fun v H' z ex st i ret fr hk => ?_⟩
  have r2 : W.Rs _ σ Γ H' := r1.extd ex st
  refine K v H' z r2 (e1.trans ex) ?_ ⟨fun a ha => ⟨Rs.notin r1 (fr a ha), Rs.fresh r1 (fr a ha)⟩, fun a ha => ?_⟩ (NewAt.back fr e1 r1) hk
  · cases z with
    | d x => exact i
    | f a xs => exact i
    | fk a xs => exact i
    | _ => cases ret
  · cases z with
    | d x => cases ha
    | f a xs => cases ha
    | fk a xs => cases ha
    | _ => cases ret
/-! ### built-ins -/
theorem q_B {id : String} {nm : Str} {rr : List V → Hp → VK → Prop} (hc : CallR W.X (.builtin id) rr) (hm : W.X.mg nm = none) (hv : bootBuiltins nm = some (.builtin id)) (kk : Nat → List Sl → Prop)
    (hr : ∀ {ν : Nat} zs, kk ν zs → ∀ σ H vs Q, W.Rs ν σ Γ H → IsAll W Γ H vs zs → Kt W σ Γ H k Q → rr vs H Q) (h : QA W ν Γ (e :: es) kk) (hg : Gl W.X nm := by rfl) (hn : nm ≠ "__name__" := by decide) (hdb : (nm == ("__debug__" : Str)) = false := by decide)
    (he : starEach (e :: es) W.X.env = (false, eval e W.X.env) :: starEach es W.X.env := by rfl) (hpl : (backTo pos (starEach es W.X.env)).any (·.1) = false := by rfl) : QE W ν Γ (.Call (.Name nm p0) (e :: es) [] pos) k := fun σ H Q r K => by
  refine wp_of (pe_callB hc hg hm hv pa_wp hn hdb he hpl) ?_
  refine h σ H _ r fun vs H1 zs r1 e1 i1 _ hk => ?_
  exact hr zs hk σ H1 vs Q r1 i1 (K.step e1 r1)
theorem q_Ty {T : String} {nm : Str} {rr : List V → Hp → VK → Prop} (hc : CallR W.X (.type T) rr) (hm : W.X.mg nm = none) (hv : bootBuiltins nm = some (.type T)) (kk : Nat → List Sl → Prop)
    (hr : ∀ {ν : Nat} zs, kk ν zs → ∀ σ H vs Q, W.Rs ν σ Γ H → IsAll W Γ H vs zs → Kt W σ Γ H k Q → rr vs H Q) (h : QA W ν Γ (e :: es) kk) (hg : Gl W.X nm := by rfl) (hn : nm ≠ "__name__" := by decide) (hdb : (nm == ("__debug__" : Str)) = false := by decide)
    (he : starEach (e :: es) W.X.env = (false, eval e W.X.env) :: starEach es W.X.env := by rfl) (hpl : (backTo pos (starEach es W.X.env)).any (·.1) = false := by rfl) : QE W ν Γ (.Call (.Name nm p0) (e :: es) [] pos) k := fun σ H Q r K => by
  refine wp_of (pe_callTy hc hg hm hv pa_wp hn hdb he hpl) ?_
  refine h σ H _ r fun vs H1 zs r1 e1 i1 _ hk => ?_
  exact hr zs hk σ H1 vs Q r1 i1 (K.step e1 r1)
theorem qa_one {P : Nat → Sl → Prop} (h : QE W ν Γ e P) (hs : starEach (e :: []) W.X.env = (false, eval e W.X.env) :: starEach [] W.X.env := by rfl) : QA W ν Γ [e] fun ν1 zs => ∃ z, zs = [z] ∧ P ν1 z := qa_cons (h.mono fun z hz => qa_nil ⟨z, rfl, hz⟩) hs
theorem IsAll.one {vs : List V} (i : IsAll W Γ H vs [z]) : ∃ v, vs = [v] ∧ W.Is H v z ∧ Fr W Γ z := by
  cases i with
  | cons q t =>
    cases t
    exact ⟨_, rfl, q⟩
theorem q_abs (hm : W.X.mg "abs" = none) (h : QE W ν Γ e fun ν1 x => ∃ i, x = .d (.int i) ∧ k ν1 (.d (.int (if i < 0 then -i else i)))) (hg : Gl W.X "abs" := by rfl) (he : starEach (e :: []) W.X.env = (false, eval e W.X.env) :: starEach [] W.X.env := by rfl) : QE W ν Γ (.Call (.Name "abs" p0) [e] [] pos) k := by
  refine q_B call_abs hm (by decide +kernel) (fun μ zs => ∃ z, zs = [z] ∧ ∃ i, z = .d (.int i) ∧ k μ (.d (.int (if i < 0 then -i else i)))) ?_ (qa_one h he) hg (by decide) (by decide) he rfl
  rintro μ zs ⟨z, rfl, i, rfl, hk⟩ σ H vs Q r ia K
  obtain ⟨v, rfl, i1, _⟩ := ia.one
  rw [Im.intI i1]
  exact ⟨i, rfl, K.int r hk⟩
theorem q_toInt (hm : W.X.mg "int" = none) (h : QE W ν Γ e fun ν1 x => ∃ i, x = .d (.int i) ∧ k ν1 (.d (.int i))) (hg : Gl W.X "int" := by rfl) (he : starEach (e :: []) W.X.env = (false, eval e W.X.env) :: starEach [] W.X.env := by rfl) : QE W ν Γ (.Call (.Name "int" p0) [e] [] pos) k := by
  refine q_Ty call_int1 hm (by decide +kernel) (fun μ zs => ∃ z, zs = [z] ∧ ∃ i, z = .d (.int i) ∧ k μ (.d (.int i))) ?_ (qa_one h he) hg (by decide) (by decide) he rfl
  rintro μ zs ⟨z, rfl, i, rfl, hk⟩ σ H vs Q r ia K
  obtain ⟨v, rfl, i1, _⟩ := ia.one
  rw [Im.intI i1]
  exact .inl ⟨i, rfl, K.int r hk⟩
/-- a tuple's or a list's items -/
def seqOf : Sl → Option (List D)
  | .d (.tuple xs) => some xs
  | z => lsOf z
theorem Is.seq {xs : List D} (i : W.Is H v z) (r : W.Rs ν σ Γ H) (h : seqOf z = some xs) : ∃ a vs, v = .ref a ∧ (SqL W.X.K H a vs ∨ SqT W.X.K H a vs) ∧ ImA W.X.K H vs xs := by
  cases z with
  | d x =>
    cases x with
    | tuple ys =>
      cases h
      obtain ⟨a, vs, e, s1, s2⟩ := Im.tupI i
      exact ⟨a, vs, e, .inr s1, s2⟩
    | _ => cases h
  | o a ys =>
    obtain ⟨a, vs, e, s1, s2⟩ := Is.lst i r h
    exact ⟨a, vs, e, .inl s1, s2⟩
  | f a ys =>
    obtain ⟨a, vs, e, s1, s2⟩ := Is.lst i r h
    exact ⟨a, vs, e, .inl s1, s2⟩
  | b ys =>
    obtain ⟨a, vs, e, s1, s2⟩ := Is.lst i r h
    exact ⟨a, vs, e, .inl s1, s2⟩
  | _ => cases h
theorem q_len (hm : W.X.mg "len" = none) (h : QE W ν Γ e fun ν1 x => ∃ xs, seqOf x = some xs ∧ k ν1 (.d (.int (xs.length : Int)))) (hg : Gl W.X "len" := by rfl) (he : starEach (e :: []) W.X.env = (false, eval e W.X.env) :: starEach [] W.X.env := by rfl) : QE W ν Γ (.Call (.Name "len" p0) [e] [] pos) k := by
  refine q_B call_len_seq hm PySem.boot_len (fun μ zs => ∃ z, zs = [z] ∧ ∃ xs, seqOf z = some xs ∧ k μ (.d (.int (xs.length : Int)))) ?_ (qa_one h he) hg (by decide) (by decide) he rfl
  rintro μ zs ⟨z, rfl, xs, hx, hk⟩ σ H vs Q r ia K
  obtain ⟨v, rfl, i1, _⟩ := ia.one
  obtain ⟨a, us, rfl, s1, s2⟩ := i1.seq r hx
  refine ⟨a, us, rfl, s1, ?_⟩
  rw [s2.length]
  exact K.int r hk
theorem q_toList (hm : W.X.mg "list" = none) (h : QE W ν Γ e fun ν1 x => ∃ xs, seqOf x = some xs ∧ ∀ p, k ν1 (.f p xs)) (hg : Gl W.X "list" := by rfl) (he : starEach (e :: []) W.X.env = (false, eval e W.X.env) :: starEach [] W.X.env := by rfl) : QE W ν Γ (.Call (.Name "list" p0) [e] [] pos) k := by
  refine q_Ty call_list_of hm (by decide +kernel) (fun μ zs => ∃ z, zs = [z] ∧ ∃ xs, seqOf z = some xs ∧ ∀ p, k μ (.f p xs)) ?_ (qa_one h he) hg (by decide) (by decide) he rfl
  rintro μ zs ⟨z, rfl, xs, hx, hk⟩ σ H vs Q r ia K
  obtain ⟨v, rfl, i1, _⟩ := ia.one
  obtain ⟨a, us, rfl, s1, s2⟩ := i1.seq r hx
  exact ⟨a, us, rfl, s1, fun p hp => K.newL r hp s2 (hk p)⟩
theorem q_toTup (hm : W.X.mg "tuple" = none) (h : QE W ν Γ e fun ν1 x => ∃ xs, seqOf x = some xs ∧ k ν1 (.d (.tuple xs))) (hg : Gl W.X "tuple" := by rfl) (he : starEach (e :: []) W.X.env = (false, eval e W.X.env) :: starEach [] W.X.env := by rfl) : QE W ν Γ (.Call (.Name "tuple" p0) [e] [] pos) k := by
  refine q_Ty call_tuple_of hm (by decide +kernel) (fun μ zs => ∃ z, zs = [z] ∧ ∃ xs, seqOf z = some xs ∧ k μ (.d (.tuple xs))) ?_ (qa_one h he) hg (by decide) (by decide) he rfl
  rintro μ zs ⟨z, rfl, xs, hx, hk⟩ σ H vs Q r ia K
  obtain ⟨v, rfl, i1, _⟩ := ia.one
  obtain ⟨a, us, rfl, s1, s2⟩ := i1.seq r hx
  refine ⟨a, us, rfl, ?_⟩
  rcases s1 with s1 | s1
  · exact .inl ⟨s1, fun p hp => K.newT r hp s2 hk⟩
  · exact .inr ⟨s1, K.dat r (.tup s1 s2) hk⟩
theorem ImA.bls {K : PySem.W.Frag} : ∀ {vs : List V} {bs : List Bool}, ImA K H vs (bs.map PyData.bool) → vs = bs.map V.bl
  | _, [], h => by
    cases h
    rfl
  | _, n :: ns, h => by
    cases h with
    | cons q r =>
      cases q
      rw [ImA.bls r]
      rfl
theorem q_all (ok : W.Ok) (hm : W.X.mg "all" = none) (h : QE W ν Γ e fun ν1 x => ∃ bs : List Bool, lsOf x = some (bs.map PyData.bool) ∧ k ν1 (.d (.bool (bs.all id)))) (hg : Gl W.X "all" := by rfl) (he : starEach (e :: []) W.X.env = (false, eval e W.X.env) :: starEach [] W.X.env := by rfl) : QE W ν Γ (.Call (.Name "all" p0) [e] [] pos) k := by
  refine q_B (cr_all ok.calm) hm (by decide +kernel) (fun μ zs => ∃ z, zs = [z] ∧ ∃ bs : List Bool, lsOf z = some (bs.map PyData.bool) ∧ k μ (.d (.bool (bs.all id)))) ?_ (qa_one h he) hg (by decide) (by decide) he rfl
  rintro μ zs ⟨z, rfl, bs, hx, hk⟩ σ H vs Q r ia K
  obtain ⟨v, rfl, i1, _⟩ := ia.one
  obtain ⟨a, us, rfl, s1, s2⟩ := i1.lst r hx
  rw [ImA.bls s2] at s1
  exact ⟨a, bs, rfl, s1, K.bl r hk⟩
/-- math.gcd -/
theorem q_gcd {nm : Str} (hm : W.X.mg nm = some (.builtin "math.gcd")) (h : QE W ν Γ a fun ν1 x => ∃ i, x = .d (.int i) ∧ QE W ν1 Γ b fun ν2 y => ∃ j, y = .d (.int j) ∧ k ν2 (.d (.int ((Nat.gcd i.natAbs j.natAbs : Nat) : Int)))) (hg : Gl W.X nm := by rfl) (hdb : (nm == ("__debug__" : Str)) = false := by decide)
    (he : starEach (a :: [b]) W.X.env = (false, eval a W.X.env) :: starEach [b] W.X.env := by rfl) (he2 : starEach (b :: []) W.X.env = (false, eval b W.X.env) :: starEach [] W.X.env := by rfl) (hpl : (backTo pos (starEach [b] W.X.env)).any (·.1) = false := by rfl) : QE W ν Γ (.Call (.Name nm p0) [a, b] [] pos) k := fun σ H Q r K => by
  refine wp_of (pe_callBfun cr_gcd hg hm (pa_cons pe_wp (pa_cons pe_wp pa_nil he2) he) hdb he hpl) ?_
  refine h σ H _ r fun v H1 x r1 e1 i1 f1 _ ⟨i, ex, q1⟩ => ?_
  subst ex
  refine q1 σ H1 _ r1 fun u H2 y r2 e2 i2 f2 _ ⟨j, ey, hk⟩ => ?_
  subst ey
  rw [Im.intI i1, Im.intI i2]
  exact ⟨i, j, rfl, Kt.int (K.step (e1.trans e2) r2) r2 hk⟩
/-! ### isinstance -/
def isiT : D → String
  | .none => "NoneType"
  | .bool _ => "bool"
  | .int _ => "int"
  | .tuple _ => "tuple"
  | _ => ""
theorem Im.ty {K : PySem.W.Frag} {v : V} {x : D} (ox : topD x = true) (i : Im K H v x) : TyX K H v (.type (isiT x)) := by
  cases i with
  | non => exact .base .non
  | bl b => exact .base (.bl b)
  | int n => exact .base (.int n)
  | any v => cases ox
  | tup s1 s2 =>
    rcases s1 with (s1 | ⟨o, s1⟩) | ⟨o, its, n, h1, h2, h3, h4, h5⟩
    · exact .base (.tup s1)
    · exact .fTuple s1
    · exact .kTuple h1 h2
/-- isinstance(e, T), e data, T a built-in class -/
theorem q_isi {T : String} {nm : Str} (hm : W.X.mg "isinstance" = none) (hmT : W.X.mg nm = none) (hvT : bootBuiltins nm = some (.type T)) (h : QE W ν Γ e fun ν1 x => ∃ d b, x = .d d ∧ topD d = true ∧ kitB (isiT d) T = some b ∧ k ν1 (.d (.bool b))) (hg : Gl W.X "isinstance" := by rfl) (hgT : Gl W.X nm := by rfl)
    (hn : nm ≠ "__name__" := by decide) (hd : (nm == ("__debug__" : Str)) = false := by decide) (he : starEach (e :: [.Name nm p1]) W.X.env = (false, eval e W.X.env) :: starEach [.Name nm p1] W.X.env := by rfl) : QE W ν Γ (.Call (.Name "isinstance" p0) [e, .Name nm p1] [] pos) k := fun σ H Q r K => by
  refine wp_of (pe_callB call_isi hg hm (by decide +kernel) (pa_cons pe_wp (pa_cons (pe_bltn hgT hmT hvT (show RelV (.ty T) (.type T) from rfl) hn hd) pa_nil) he) (by decide) (by decide) he rfl) ?_
  refine h σ H _ r fun v H1 x r1 e1 i1 f1 _ ⟨d, b, ex, od, hb, hk⟩ => ?_
  subst ex
  exact ⟨v, .ty T, _, .type T, b, rfl, .ty T, Im.ty od i1, kit_ty hb, Kt.bl (K.step e1 r1) r1 hk⟩
/-- what isinstance asks of the class House -/
structure HouseF (K : PySem.W.Frag) (C : Addr) : Prop where
  cl : Cls K C
  ha : PySem.W.findIn K (.ref C) "__class__" = some (some (.builtin "object.__class__"))
  hn : PySem.W.specialIn K (.builtin "object.__class__") "__get__" = some (some (.builtin "getset_descriptor.__get__"))
  htk : PySem.W.takesIn K (.builtin "object.__class__") = some true
  hm : PySem.W.mroIn K C (.type "object") = some true
  kit : PySem.W.kitOne K (.ref C) (.ref C) = some true
  nR : NoAttr K C "rooms"
  nD : NoAttr K C "doors"
theorem q_isH {nm : Str} (HF : HouseF W.X.K W.c.C) (hm : W.X.mg "isinstance" = none) (hmC : W.X.mg nm = some (.ref W.c.C)) (h : QE W ν Γ e fun ν1 x => ∃ n d, x = .h n d ∧ k ν1 (.d (.bool true))) (hg : Gl W.X "isinstance" := by rfl) (hgT : Gl W.X nm := by rfl) (hd : (nm == ("__debug__" : Str)) = false := by decide)
    (he : starEach (e :: [.Name nm p1]) W.X.env = (false, eval e W.X.env) :: starEach [.Name nm p1] W.X.env := by rfl) : QE W ν Γ (.Call (.Name "isinstance" p0) [e, .Name nm p1] [] pos) k := fun σ H Q r K => by
  refine wp_of (pe_callB call_isi hg hm (by decide +kernel) (pa_cons pe_wp (pa_cons (pe_glob hgT hmC (show RelV (.ref W.c.C) (.ref W.c.C) from rfl) hd) pa_nil) he) (by decide) (by decide) he rfl) ?_
  refine h σ H _ r fun v H1 x r1 e1 i1 f1 _ ⟨n, d, ex, hk⟩ => ?_
  subst ex
  obtain ⟨a, dx, fs, t, rfl, h2, h3, h4, h5⟩ := i1
  exact ⟨_, .ref W.c.C, .ref W.c.C, .ref W.c.C, true, rfl, .own _, .base (.ins h2 HF.cl HF.ha HF.hn HF.htk HF.hm), HF.kit, Kt.bl (K.step e1 r1) r1 hk⟩
/-! ### fields -/
theorem q_rooms (HF : HouseF W.X.K W.c.C) (h : QE W ν Γ e fun ν1 x => ∃ n d, x = .h n d ∧ k ν1 (.d (.int n))) (hb : attributeBase e "rooms" W.X.env (eval e W.X.env) = eval e W.X.env := by rfl) : QE W ν Γ (.Attribute e "rooms" pos) k := fun σ H Q r K => by
  refine wp_of (pe_fld pe_wp hb) ?_
  refine h σ H _ r fun v H1 x r1 e1 i1 f1 _ ⟨n, d, ex, hk⟩ => ?_
  subst ex
  obtain ⟨a, dx, fs, t, rfl, h2, h3, h4, h5⟩ := i1
  exact ⟨a, W.c.C, dx, fs, .int n, rfl, h2, HF.cl, HF.nR, h3, Kt.int (K.step e1 r1) r1 hk⟩
theorem q_doors (HF : HouseF W.X.K W.c.C) (h : QE W ν Γ e fun ν1 x => ∃ n d, x = .h n d ∧ k ν1 (.d d)) (hb : attributeBase e "doors" W.X.env (eval e W.X.env) = eval e W.X.env := by rfl) : QE W ν Γ (.Attribute e "doors" pos) k := fun σ H Q r K => by
  refine wp_of (pe_fld pe_wp hb) ?_
  refine h σ H _ r fun v H1 x r1 e1 i1 f1 _ ⟨n, d, ex, hk⟩ => ?_
  subst ex
  obtain ⟨a, dx, fs, t, rfl, h2, h3, h4, h5⟩ := i1
  exact ⟨a, W.c.C, dx, fs, t, rfl, h2, HF.cl, HF.nD, h4, Kt.dat (K.step e1 r1) r1 h5 hk⟩
/-! ### dicts with int keys -/
def kvOf : Sl → Option (List (Int × D))
  | .ok _ kvs => some kvs
  | .fk _ kvs => some kvs
  | _ => none
def getD (kvs : List (Int × D)) (i : Int) : Option D := (kvs.find? fun q => decide (q.1 = i)).map (·.2)
def putD (kvs : List (Int × D)) (i : Int) (d : D) : List (Int × D) := if kvs.any (fun q => decide (q.1 = i)) then kvs.map (fun q => if q.1 = i then (i, d) else q) else kvs ++ [(i, d)]
theorem Is.kv {kvs : List (Int × D)} (i : W.Is H v z) (h : kvOf z = some kvs) : ∃ a vs, v = .ref a ∧ H a = some (.dK vs) ∧ KvA W.X.K H vs kvs := by
  cases z with
  | ok a ys =>
    cases h
    obtain ⟨rfl, vs, h1, h2⟩ := i
    exact ⟨a, vs, rfl, h1, h2⟩
  | fk a ys =>
    cases h
    obtain ⟨rfl, vs, h1, h2⟩ := i
    exact ⟨a, vs, rfl, h1, h2⟩
  | _ => cases h
theorem kv_get {K : PySem.W.Frag} {i : Int} : ∀ {vs : List (Key × V)} {kvs : List (Int × D)}, KvA K H vs kvs → (valV vs (.inl i) = none ∧ getD kvs i = none) ∨ ∃ v d, valV vs (.inl i) = some v ∧ getD kvs i = some d ∧ Im K H v d
  | _, _, .nil => .inl ⟨rfl, rfl⟩
  | _, _, .cons (a := q) (b := q2) h t => by
    obtain ⟨k, v⟩ := q
    obtain ⟨j, d⟩ := q2
    obtain ⟨h1, h2⟩ := h
    simp only at h1 h2
    subst h1
    by_cases e : j = i
    · subst e
      refine .inr ⟨v, d, ?_, ?_, h2⟩
      · unfold valV
        rw [List.find?_cons]
        simp
      · unfold getD
        rw [List.find?_cons]
        simp
    · have e1 : decide ((Sum.inl j : Key) = Sum.inl i) = false := decide_eq_false fun q => e (Sum.inl.inj q)
      have e2 : decide (j = i) = false := decide_eq_false e
      rcases kv_get (i := i) t with ⟨t1, t2⟩ | ⟨w, x, t1, t2, t3⟩
      · refine .inl ⟨?_, ?_⟩
        · unfold valV at t1 ⊢
          rw [List.find?_cons, e1]
          exact t1
        · unfold getD at t2 ⊢
          rw [List.find?_cons, e2]
          exact t2
      · refine .inr ⟨w, x, ?_, ?_, t3⟩
        · unfold valV at t1 ⊢
          rw [List.find?_cons, e1]
          exact t1
        · unfold getD at t2 ⊢
          rw [List.find?_cons, e2]
          exact t2
theorem c_dnotin (ok : W.Ok) (h : QE W ν Γ a fun ν1 x => ∃ i, x = .d (.int i) ∧ QE W ν1 Γ b fun ν2 y => ∃ kvs, kvOf y = some kvs ∧ k ν2 (.d (.bool (!(getD kvs i).isSome)))) : QCmp W ν Γ .NotIn a b k := fun σ H Q r K => by
  have hu : W.X.A.units + 1 < cLine := Nat.lt_of_le_of_lt (Nat.add_le_add_left (by decide : 1 ≤ 64) _) ok.hu
  refine wpc_of (pc_dnotin hu pe_wp pe_wp) ?_
  refine h σ H _ r fun v H1 x r1 e1 i1 f1 _ ⟨i, ex, q1⟩ => ?_
  subst ex
  refine q1 σ H1 _ r1 fun u H2 y r2 e2 i2 f2 _ ⟨kvs, hy, hk⟩ => ?_
  rw [Im.intI i1]
  obtain ⟨a, vs, rfl, h1, h2⟩ := i2.kv hy
  refine ⟨a, valV vs (.inl i), rfl, DGet.k (k := Sum.inl i) h1, ?_⟩
  have e : (valV vs (.inl i)).isSome = (getD kvs i).isSome := by
    rcases kv_get (i := i) h2 with ⟨t1, t2⟩ | ⟨w, x, t1, t2, t3⟩
    · rw [t1, t2]
      rfl
    · rw [t1, t2]
      rfl
  rw [e]
  exact Kt.bl (K.step (e1.trans e2) r2) r2 hk
theorem q_dget (ok : W.Ok) (h : QE W ν Γ a fun ν1 x => ∃ kvs, kvOf x = some kvs ∧ QE W ν1 Γ b fun ν2 y => ∃ i d, y = .d (.int i) ∧ getD kvs i = some d ∧ k ν2 (.d d)) (hs : NoSl b := by exact fun _ _ => rfl) : QE W ν Γ (.Subscript a b pos) k := fun σ H Q r K => by
  have hu : W.X.A.units + 1 < cLine := Nat.lt_of_le_of_lt (Nat.add_le_add_left (by decide : 1 ≤ 64) _) ok.hu
  refine wp_of (pe_dget hu pe_wp pe_wp hs) ?_
  refine h σ H _ r fun v H1 x r1 e1 i1 f1 _ ⟨kvs, hx, q1⟩ => ?_
  refine q1 σ H1 _ r1 fun u H2 y r2 e2 i2 f2 _ ⟨i, d, ey, hd, hk⟩ => ?_
  subst ey
  rw [Im.intI i2]
  obtain ⟨a, vs, rfl, h1, h2⟩ := (i1.over f1 r1 e2).kv hx
  rcases kv_get (i := i) h2 with ⟨t1, t2⟩ | ⟨w, x, t1, t2, t3⟩
  · rw [t2] at hd
    cases hd
  · rw [t2] at hd
    cases hd
    have g := DGet.k (k := Sum.inl i) h1
    rw [t1] at g
    exact ⟨a, w, rfl, g, Kt.dat (K.step (e1.trans e2) r2) r2 t3 hk⟩
/-- in, not in a written tuple of ints -/
theorem inV_ints (i : Int) (ns : List Int) : inV (.int i) (ns.map V.int) = ns.contains i := by
  induction ns with
  | nil => rfl
  | cons n ns ih =>
    show (eqV (.int n) (.int i) || inV (.int i) (ns.map V.int)) = _
    rw [ih, List.contains_cons]
    congr 1
    show decide _ = _
    by_cases e : n = i
    · subst e
      simp
    · simp [e]
      omega
theorem c_notinT (h : QE W ν Γ a fun ν1 x => ∃ i, x = .d (.int i) ∧ QE W ν1 Γ b fun ν2 y => ∃ ns : List Int, y = .d (.tuple (ns.map PyData.int)) ∧ k ν2 (.d (.bool (!(ns.contains i))))) : QCmp W ν Γ .NotIn a b k := by
  refine q_twoC (pc_op op_notIn_seq pe_wp pe_wp) (fun μ x y => ∃ i, x = .d (.int i) ∧ ∃ ns : List Int, y = .d (.tuple (ns.map PyData.int)) ∧ k μ (.d (.bool (!(ns.contains i))))) ?_ ?_
  · rintro μ x y ⟨i, rfl, ns, rfl, hk⟩ σ H v u Q r i1 i2 _ _ K
    rw [Im.intI i1]
    obtain ⟨b, us, rfl, t1, t2⟩ := Im.tupI i2
    have e := ImA.ints t2
    subst e
    refine ⟨b, ns.map V.int, rfl, .inr t1, rfl, ?_, ?_⟩
    · rw [List.all_eq_true]
      intro w hw
      obtain ⟨n, _, rfl⟩ := List.mem_map.mp hw
      rfl
    · show Q (.bl (!inV (.int i) (ns.map V.int))) H
      rw [inV_ints]
      exact K.bl r hk
  · exact h.mono fun x ⟨i, e, q⟩ => q.mono fun y q2 => ⟨i, e, q2⟩
end
end QL

/-! Q5: statements. -/
namespace QL
open PySem PySem.Spec PyProof.Rows L2
/-! ### slots that change -/
theorem mem_adrs {Γ : Ga} {a : Addr} : a ∈ adrs Γ ↔ ∃ (i : Nat) (z : Sl), Γ[i]? = some (some z) ∧ adr z = some a := by
  unfold adrs
  rw [List.mem_filterMap]
  constructor
  · rintro ⟨y, hy, e⟩
    obtain ⟨i, hi, e2⟩ := List.mem_iff_getElem.mp hy
    cases y with
    | none => cases e
    | some z => exact ⟨i, z, by rw [List.getElem?_eq_getElem hi, e2], e⟩
  · rintro ⟨i, z, h, e⟩
    exact ⟨some z, List.mem_of_getElem? h, e⟩
theorem adrs_set_mem : ∀ {Γ : Ga} {i : Nat} {y : Option Sl} {a : Addr}, a ∈ adrs (Γ.set i y) → a ∈ adrs Γ ∨ y.bind adr = some a
  | [], _, _, _, h => by
    rw [List.set_nil] at h
    exact .inl h
  | x :: Γ, 0, y, a, h => by
    unfold adrs at h ⊢
    rw [List.set_cons_zero, List.mem_filterMap] at h
    obtain ⟨z, hz, e⟩ := h
    rcases List.mem_cons.mp hz with hz | hz
    · subst hz
      exact .inr e
    · exact .inl (List.mem_filterMap.mpr ⟨z, List.mem_cons_of_mem _ hz, e⟩)
  | x :: Γ, i + 1, y, a, h => by
    unfold adrs at h ⊢
    rw [List.set_cons_succ, List.mem_filterMap] at h
    obtain ⟨z, hz, e⟩ := h
    rcases List.mem_cons.mp hz with hz | hz
    · exact .inl (List.mem_filterMap.mpr ⟨z, hz ▸ List.mem_cons_self, e⟩)
    · have := adrs_set_mem (Γ := Γ) (i := i) (y := y) (a := a) (by
        unfold adrs
        exact List.mem_filterMap.mpr ⟨z, hz, e⟩)
      rcases this with q | q
      · unfold adrs at q
        obtain ⟨z', hz', e'⟩ := List.mem_filterMap.mp q
        exact .inl (List.mem_filterMap.mpr ⟨z', List.mem_cons_of_mem _ hz', e'⟩)
      · exact .inr q
theorem adrs_cons (x : Option Sl) (Γ : Ga) : adrs (x :: Γ) = (match x.bind adr with
    | some a => a :: adrs Γ
    | none => adrs Γ) := by
  unfold adrs
  rw [List.filterMap_cons]
  cases x.bind adr <;> rfl
theorem adrs_set_nd : ∀ {Γ : Ga} {i : Nat} {y : Option Sl}, (adrs Γ).Nodup → (∀ a, y.bind adr = some a → a ∉ adrs Γ) → (adrs (Γ.set i y)).Nodup
  | [], _, _, h, _ => h
  | x :: Γ, 0, y, h, n => by
    rw [List.set_cons_zero, adrs_cons]
    rw [adrs_cons] at h n
    have hΓ : (adrs Γ).Nodup := by
      cases hx : x.bind adr with
      | none =>
        rw [hx] at h
        exact h
      | some b =>
        rw [hx] at h
        exact (List.nodup_cons.mp h).2
    cases hy : y.bind adr with
    | none => exact hΓ
    | some a =>
      refine List.nodup_cons.mpr ⟨fun m => n a hy ?_, hΓ⟩
      cases hx : x.bind adr with
      | none => exact m
      | some b => exact List.mem_cons_of_mem _ m
  | x :: Γ, i + 1, y, h, n => by
    rw [List.set_cons_succ, adrs_cons]
    rw [adrs_cons] at h n
    cases hx : x.bind adr with
    | none =>
      rw [hx] at h n
      exact adrs_set_nd h n
    | some b =>
      rw [hx] at h n
      obtain ⟨h1, h2⟩ := List.nodup_cons.mp h
      refine List.nodup_cons.mpr ⟨fun m => ?_, adrs_set_nd h2 fun a ha m => n a ha (List.mem_cons_of_mem _ m)⟩
      rcases adrs_set_mem m with q | q
      · exact h1 q
      · exact n b q List.mem_cons_self
theorem adrs_set_same : ∀ {Γ : Ga} {i : Nat} {y : Option Sl} {z : Option Sl}, Γ[i]? = some z → y.bind adr = z.bind adr → adrs (Γ.set i y) = adrs Γ
  | [], _, _, _, h, _ => by simp at h
  | x :: Γ, 0, y, z, h, e => by
    cases h
    rw [List.set_cons_zero, adrs_cons, adrs_cons, e]
  | x :: Γ, i + 1, y, z, h, e => by
    rw [List.set_cons_succ, adrs_cons, adrs_cons, adrs_set_same (by simpa using h) e]
theorem adr_inj : ∀ {Γ : Ga} {i j : Nat} {z y : Sl} {a : Addr}, (adrs Γ).Nodup → Γ[i]? = some (some z) → Γ[j]? = some (some y) → adr z = some a → adr y = some a → i = j
  | [], _, _, _, _, _, _, h, _, _, _ => by simp at h
  | x :: Γ, 0, 0, _, _, _, _, _, _, _, _ => rfl
  | x :: Γ, 0, j + 1, z, y, a, n, h, k, e, f => by
    cases h
    rw [adrs_cons] at n
    have hx : (some z).bind adr = some a := e
    rw [hx] at n
    exact absurd (mem_adrs.mpr ⟨j, y, by simpa using k, f⟩) (List.nodup_cons.mp n).1
  | x :: Γ, i + 1, 0, z, y, a, n, h, k, e, f => by
    cases k
    rw [adrs_cons] at n
    have hx : (some y).bind adr = some a := f
    rw [hx] at n
    exact absurd (mem_adrs.mpr ⟨i, z, by simpa using h, e⟩) (List.nodup_cons.mp n).1
  | x :: Γ, i + 1, j + 1, z, y, a, n, h, k, e, f => by
    rw [adrs_cons] at n
    have n2 : (adrs Γ).Nodup := by
      cases hx : x.bind adr with
      | none =>
        rw [hx] at n
        exact n
      | some b =>
        rw [hx] at n
        exact (List.nodup_cons.mp n).2
    rw [adr_inj (i := i) (j := j) n2 (by simpa using h) (by simpa using k) e f]
theorem paired_get2 {α β : Type} {P : α → β → Prop} : ∀ {xs : List α} {ys : List β}, Paired P xs ys → xs.length = ys.length ∧ ∀ (i : Nat) (x : α) (y : β), xs[i]? = some x → ys[i]? = some y → P x y
  | _, _, .nil => ⟨rfl, fun i x y h _ => by simp at h⟩
  | _, _, .cons q r => by
    obtain ⟨h1, h2⟩ := paired_get2 r
    refine ⟨congrArg (· + 1) h1, fun i x y h k => ?_⟩
    cases i with
    | zero =>
      cases h
      cases k
      exact q
    | succ i => exact h2 i x y (by simpa using h) (by simpa using k)
variable {ν ν' : Nat} {W : Wx} {σ : L2.St} {Γ : Ga} {H H1 H2 : Hp} {k k' : Nat → Sl → Prop} {Q : VK} {z : Sl} {v : V} {a b e c : Expr} {es rest : List Expr} {x : D} {pos p0 p1 p2 p3 : Pos} {p : Addr}
theorem paired_of {α β : Type} {P : α → β → Prop} : ∀ {xs : List α} {ys : List β}, xs.length = ys.length → (∀ (i : Nat) (x : α) (y : β), xs[i]? = some x → ys[i]? = some y → P x y) → Paired P xs ys
  | [], [], _, _ => .nil
  | x :: xs, y :: ys, h, k => .cons (k 0 x y rfl rfl) (paired_of (by simpa using h) fun i a b h1 h2 => k (i + 1) a b (by simpa using h1) (by simpa using h2))
  | [], _ :: _, h, _ => by simp at h
  | _ :: _, [], h, _ => by simp at h
/-- what a slot holds of a result -/
def ownS : Sl → Sl
  | .f a xs => .o a xs
  | .fk a kvs => .ok a kvs
  | z => z
def canSet : Sl → Bool
  | .d _ => true
  | .f _ _ => true
  | .fk _ _ => true
  | .h _ _ => true
  | _ => false
section
theorem Is.own' (i : W.Is H v z) : W.Is H v (ownS z) ∧ frA (ownS z) = none := by
  cases z with
  | f a xs => exact ⟨i, rfl⟩
  | fk a xs => exact ⟨i, rfl⟩
  | _ => exact ⟨i, rfl⟩
theorem Rs.put (r : W.Rs ν σ Γ H) (i : Nat) (iz : W.Is H v z) (f : Fr W Γ z) (h : canSet z = true) : W.Rs ν (σ.set i (some v)) (Γ.set i (some (ownS z))) H := by
  have hz : ∀ a, adr (ownS z) = some a → (a ∉ adrs Γ ∧ a ∉ pinA W.gh) ∧ W.H0 a = none := fun a ha => by
    cases z with
    | f b xs =>
      cases ha
      exact f.fr _ rfl
    | fk b xs =>
      cases ha
      exact f.fr _ rfl
    | d x => cases ha
    | h n x => cases ha
    | _ => cases h
  refine ⟨r.ext, r.st0, r.st, psetP ?_ i r.sl, adrs_set_nd r.nd fun a ha => (hz a ha).1.1, fun a ha => ?_, fun q hq => ?_⟩
  · exact Is.own' iz
  · rcases adrs_set_mem ha with q | q
    · exact r.own a q
    · exact (hz a q).2
  · obtain ⟨h1, h2, h3⟩ := r.pin q hq
    refine ⟨h1, h2, fun a ha => ⟨fun m => ?_, (h3 a ha).2⟩⟩
    rcases adrs_set_mem m with q' | q'
    · exact (h3 a ha).1 q'
    · refine (hz a q').1.2 ?_
      unfold pinA
      exact List.mem_filterMap.mpr ⟨q, hq, ha⟩
theorem Rs.clear (r : W.Rs ν σ Γ H) (i : Nat) (ov : Option V) : W.Rs ν (σ.set i ov) (Γ.set i none) H := by
  refine ⟨r.ext, r.st0, r.st, psetP ?_ i r.sl, adrs_set_nd r.nd (fun a ha => nomatch ha), fun a ha => ?_, fun q hq => ?_⟩
  · cases ov <;> exact trivial
  · rcases adrs_set_mem ha with q | q
    · exact r.own a q
    · cases q
  · obtain ⟨h1, h2, h3⟩ := r.pin q hq
    refine ⟨h1, h2, fun a ha => ⟨fun m => ?_, (h3 a ha).2⟩⟩
    rcases adrs_set_mem m with q' | q'
    · exact (h3 a ha).1 q'
    · cases q'
/-- what is held stays when another's list or dict changes -/
theorem Is.upd' {o : HO} (i : W.Is H v z) (kp : Kp H (upd H p o)) (hn : ∀ a, adr z = some a → a ≠ p) (hf : ∀ a, frA z = some a → a ≠ p) : W.Is (upd H p o) v z := by
  cases z with
  | d x => exact Im.kp kp i
  | o a xs =>
    obtain ⟨h1, vs, h2, h3⟩ := i
    exact ⟨h1, vs, by rw [upd_ne (hn a rfl)]; exact h2, h3.kp kp⟩
  | f a xs =>
    obtain ⟨h1, vs, h2, h3⟩ := i
    exact ⟨h1, vs, by rw [upd_ne (hf a rfl)]; exact h2, h3.kp kp⟩
  | b xs =>
    obtain ⟨a, vs, h1, h2, h3, h4⟩ := i
    exact ⟨a, vs, h1, h2, h3.kp kp, h4⟩
  | h n d =>
    obtain ⟨a, dx, fs, t, h1, h2, h3, h4, h5⟩ := i
    exact ⟨a, dx, fs, t, h1, kp.ins _ _ _ _ h2, h3, h4, h5.kp kp⟩
  | s => exact i
  | v x => exact i
  | ok a kvs =>
    obtain ⟨h1, vs, h2, h3⟩ := i
    exact ⟨h1, vs, by rw [upd_ne (hn a rfl)]; exact h2, h3.kp kp⟩
  | fk a kvs =>
    obtain ⟨h1, vs, h2, h3⟩ := i
    exact ⟨h1, vs, by rw [upd_ne (hf a rfl)]; exact h2, h3.kp kp⟩
theorem Rs.updS {i : Nat} {z' : Sl} {o : HO} {v0 : V} (r : W.Rs ν σ Γ H) (hi : Γ[i]? = some (some z)) (hp : adr z = some p) (hp' : adr z' = some p) (kp : Kp H (upd H p o)) (hv : σ[i]? = some (some v0)) (hz : W.Is (upd H p o) v0 z') (hf : frA z' = none) : W.Rs ν σ (Γ.set i (some z')) (upd H p o) := by
  have mp : p ∈ adrs Γ := adr_mem hi hp
  have h0 := r.own p mp
  refine ⟨?_, r.st0, r.st.mut r.st0 h0 r.ext, ?_, ?_, ?_, fun q hq => ?_⟩
  · intro b u hb nm
    rw [upd_ne (ne_of_none hb h0)]
    exact r.ext b u hb nm
  · obtain ⟨l1, l2⟩ := paired_get2 r.sl
    refine paired_of (by rw [List.length_set]; exact l1) fun j x y hx hy => ?_
    by_cases hj : j = i
    · subst hj
      rw [List.getElem?_set_self (List.getElem?_eq_some_iff.mp hi).1] at hy
      cases hy
      rw [hv] at hx
      cases hx
      exact ⟨hz, hf⟩
    · rw [List.getElem?_set_ne (fun q => hj q.symm)] at hy
      have q := l2 j x y hx hy
      cases y with
      | none => trivial
      | some w =>
        cases x with
        | none => exact q.elim
        | some v =>
          refine ⟨Is.upd' q.1 kp (fun a ha e => ?_) (fun a ha e => ?_), q.2⟩
          · subst e
            exact hj (adr_inj r.nd hy hi ha hp)
          · rw [q.2] at ha
            cases ha
  · rw [adrs_set_same hi (show (some z').bind adr = (some z).bind adr from hp'.trans hp.symm)]
    exact r.nd
  · intro b hb
    rw [adrs_set_same hi (show (some z').bind adr = (some z).bind adr from hp'.trans hp.symm)] at hb
    exact r.own b hb
  · obtain ⟨h1, h2, h3⟩ := r.pin q hq
    refine ⟨Is.upd' h1 kp (fun a ha e => ?_) (fun a ha e => ?_), h2, fun a ha => ?_⟩
    · rw [h2] at ha
      cases ha
    · subst e
      exact (h3 a ha).1 mp
    · rw [adrs_set_same hi (show (some z').bind adr = (some z).bind adr from hp'.trans hp.symm)]
      exact h3 a ha
theorem Rs.updO {i : Nat} {xs xs' : List D} {vs vs' : List V} (r : W.Rs ν σ Γ H) (hi : Γ[i]? = some (some (.o p xs))) (hl : H p = some (.lst vs)) (h : ImA W.X.K H vs' xs') : W.Rs ν σ (Γ.set i (some (.o p xs'))) (upd H p (.lst vs')) := by
  obtain ⟨v, hv, ⟨rfl, _⟩, _⟩ := r.get hi
  exact Rs.updS r hi rfl rfl (.mutL hl) hv ⟨rfl, vs', upd_same, h.kp (.mutL hl)⟩ rfl
theorem Rs.updK {i : Nat} {xs xs' : List (Int × D)} {vs vs' : List (Key × V)} (r : W.Rs ν σ Γ H) (hi : Γ[i]? = some (some (.ok p xs))) (hl : H p = some (.dK vs)) (h : KvA W.X.K H vs' xs') : W.Rs ν σ (Γ.set i (some (.ok p xs'))) (upd H p (.dK vs')) := by
  obtain ⟨v, hv, ⟨rfl, _⟩, _⟩ := r.get hi
  exact Rs.updS r hi rfl rfl (.mutK hl) hv ⟨rfl, vs', upd_same, h.kp (.mutK hl)⟩ rfl
end
/-! ### statements -/
structure Po where
  nx : Nat → Ga → Prop
  rt : Nat → Sl → Prop := fun _ _ => False
  bk : Nat → Ga → Prop := fun _ _ => False
  ct : Nat → Ga → Prop := fun _ _ => False
def rets : Sl → Sl
  | .o a xs => .f a xs
  | .ok a kvs => .fk a kvs
  | z => z
structure EndsOk (W : Wx) (P : Po) (D : Ends) : Prop where
  nx : ∀ {ν : Nat} σ H Γ, W.Rs ν σ Γ H → P.nx ν Γ → D.nx σ H
  rt : ∀ {ν : Nat} v H z, Ext W.c W.H0 H → StOk W.c ν H → W.Is H v z → isRet z = true → (∀ a, frA z = some a → W.H0 a = none) → P.rt ν z → D.rt v H
  bk : ∀ {ν : Nat} σ H Γ, W.Rs ν σ Γ H → P.bk ν Γ → D.bk σ H
  ct : ∀ {ν : Nat} σ H Γ, W.Rs ν σ Γ H → P.ct ν Γ → D.ct σ H
structure wpS (X : Cx) (st : Stmt) (D : Ends) (σ : L2.St) (H : Hp) : Prop where
  run : ∀ (pins : List (Addr × Obj)) (s : Shared), Inv X pins σ H s → wpAny (model X.prog X.w) X.A (exec st X.env) (SP X pins D) X.xe s
structure wpSs (X : Cx) (sts : List Stmt) (D : Ends) (σ : L2.St) (H : Hp) : Prop where
  run : ∀ (pins : List (Addr × Obj)) (s : Shared), Inv X pins σ H s → wpAny (model X.prog X.w) X.A (execs sts X.env) (SP X pins D) X.xe s
theorem ps_wp {X : Cx} {st : Stmt} : PS X st (wpS X st) := ⟨fun pins s σ H D I h => h.run pins s I⟩
theorem pss_wp {X : Cx} {sts : List Stmt} : PSs X sts (wpSs X sts) := ⟨fun pins s σ H D I h => h.run pins s I⟩
theorem wps_of {X : Cx} {st : Stmt} {t : TS} {σ : L2.St} {H : Hp} {D : Ends} (h : PS X st t) (q : t D σ H) : wpS X st D σ H := ⟨fun pins s I => h.run pins s σ H D I q⟩
theorem wpss_of {X : Cx} {sts : List Stmt} {t : TS} {σ : L2.St} {H : Hp} {D : Ends} (h : PSs X sts t) (q : t D σ H) : wpSs X sts D σ H := ⟨fun pins s I => h.run pins s σ H D I q⟩
def R1 (W : Wx) (ν : Nat) (st : Stmt) (Γ : Ga) (P : Po) : Prop := ∀ σ H D, W.Rs ν σ Γ H → EndsOk W P D → wpS W.X st D σ H
def RR (W : Wx) (ν : Nat) (sts : List Stmt) (Γ : Ga) (P : Po) : Prop := ∀ σ H D, W.Rs ν σ Γ H → EndsOk W P D → wpSs W.X sts D σ H
section
variable {ν ν' : Nat} {W : Wx} {σ : L2.St} {Γ : Ga} {H H1 H2 : Hp} {k k' : Nat → Sl → Prop} {Q : VK} {z : Sl} {v : V} {a b e c : Expr} {es : List Expr} {x : D} {pos p0 p1 p2 p3 : Pos} {p : Addr} {st : Stmt} {sts rest : List Stmt} {P P' : Po} {DD : Ends}
theorem r_nil (h : P.nx ν Γ) : RR W ν [] Γ P := fun σ H D r E => wpss_of pss_nil (show tNext D σ H from E.nx σ H Γ r h)
theorem r_cons (h : R1 W ν st Γ { P with nx := fun ν' Γ' => RR W ν' rest Γ' P }) : RR W ν (st :: rest) Γ P := fun σ H D r E => by
  refine wpss_of (pss_cons ps_wp pss_wp) ?_
  exact h σ H { D with nx := wpSs W.X rest D } r ⟨fun σ' H' Γ' r' q => q σ' H' D r' E, E.rt, E.bk, E.ct⟩
/-- the last statement -/
theorem r_one (h : R1 W ν st Γ P) : RR W ν [st] Γ P := fun σ H D r E => wpss_of (pss_one ps_wp) (h σ H D r E)
theorem R1.mono (h : R1 W ν st Γ P) (h1 : ∀ {ν : Nat} Γ, P.nx ν Γ → P'.nx ν Γ) (h2 : ∀ {ν : Nat} z, P.rt ν z → P'.rt ν z) (h3 : ∀ {ν : Nat} Γ, P.bk ν Γ → P'.bk ν Γ) (h4 : ∀ {ν : Nat} Γ, P.ct ν Γ → P'.ct ν Γ) : R1 W ν st Γ P' := fun σ H D r E =>
  h σ H D r ⟨fun σ' H' Γ' r' q => E.nx σ' H' Γ' r' (h1 Γ' q), fun v H z a b c d e f => E.rt v H z a b c d e (h2 z f), fun σ' H' Γ' r' q => E.bk σ' H' Γ' r' (h3 Γ' q), fun σ' H' Γ' r' q => E.ct σ' H' Γ' r' (h4 Γ' q)⟩
theorem RR.mono (h : RR W ν sts Γ P) (h1 : ∀ {ν : Nat} Γ, P.nx ν Γ → P'.nx ν Γ) (h2 : ∀ {ν : Nat} z, P.rt ν z → P'.rt ν z) (h3 : ∀ {ν : Nat} Γ, P.bk ν Γ → P'.bk ν Γ) (h4 : ∀ {ν : Nat} Γ, P.ct ν Γ → P'.ct ν Γ) : RR W ν sts Γ P' := fun σ H D r E =>
  h σ H D r ⟨fun σ' H' Γ' r' q => E.nx σ' H' Γ' r' (h1 Γ' q), fun v H z a b c d e f => E.rt v H z a b c d e (h2 z f), fun σ' H' Γ' r' q => E.bk σ' H' Γ' r' (h3 Γ' q), fun σ' H' Γ' r' q => E.ct σ' H' Γ' r' (h4 Γ' q)⟩
/-- name = e -/
theorem s_set (i : Nat) {nm : Str} (ok : W.Ok) (h : QE W ν Γ e fun ν1 z => canSet z = true ∧ P.nx ν1 (Γ.set i (some (ownS z)))) (hi : W.X.N[i]? = some nm := by rfl) (hx : Loc W.X.env.scope nm := by first | exact Or.inl rfl | exact Or.inr rfl) (hs : swapsWith e (some (.Name nm p1)) pos.line W.X.env = pure false := by rfl)
    (hf : W.X.fn nm = true ∨ W.X.env.scope.names.lookup nm = some .local := by first | exact .inl rfl | exact .inr rfl) : R1 W ν (.Assign [.Name nm p1] e pos) Γ P := fun σ H D r E => by
  refine wps_of (ps_set ok.nd hi hx pe_wp hs hf) ?_
  refine h σ H _ r fun v H1 z r1 e1 i1 f1 n1 ⟨hc, hk⟩ => ?_
  exact E.nx _ H1 _ (Rs.put r1 i i1 f1 hc) hk
/-- names of a tuple -/
def gNs : List Nat → TGs
  | [] => gNil
  | i :: r => gCons (gName i) (gNs r)
def setG (Γ : Ga) : List Nat → List D → Ga
  | i :: r, d :: ds => setG (Γ.set i (some (.d d))) r ds
  | _, _ => Γ
theorem gNs_go : ∀ {is : List Nat} {vs : List V} {ds : List D} {σ : L2.St} {Γ : Ga} {K : L2.St → Hp → Prop}, W.Rs ν σ Γ H → ImA W.X.K H vs ds → is.length = ds.length → (∀ σ', W.Rs ν σ' (setG Γ is ds) H → K σ' H) → gNs is vs σ H K
  | [], _, [], σ, Γ, K, r, i, _, k => by
    cases i
    exact ⟨rfl, k σ r⟩
  | j :: is, _, d :: ds, σ, Γ, K, r, i, hl, k => by
    cases i with
    | cons q t => exact ⟨_, _, rfl, gNs_go (Rs.put r j (z := .d d) q .d rfl) t (by simpa using hl) k⟩
  | [], _, _ :: _, _, _, _, _, _, h, _ => by simp at h
  | _ :: _, _, [], _, _, _, _, _, h, _ => by simp at h
theorem s_tup (is : List Nat) {ts : List Expr} {k1 : Nat} (ok : W.Ok) (ht : PGs W.X ts (gNs is)) (h : QE W ν Γ e fun ν1 z => ∃ ds, z = .d (.tuple ds) ∧ is.length = ds.length ∧ P.nx ν1 (setG Γ is ds))
    (hn : (assignEach ts W.X.env).length = is.length := by rfl) (hst : (assignEach ts W.X.env).findIdx? (·.1) = none := by rfl) (hs : swapsWithSole [.Tuple ts k1 p1] e pos.line W.X.env = pure false := by rfl) (hw : swappedStores [.Tuple ts k1 p1] e W.X.env = pure none := by rfl)
    (h1 : (assignEach [.Tuple ts k1 p1] W.X.env).map (·.2) = [assign (.Tuple ts k1 p1) W.X.env] := by rfl) : R1 W ν (.Assign [.Tuple ts k1 p1] e pos) Γ P := fun σ H D r E => by
  refine wps_of (ps_asg pe_wp (pg_tup ok.calm ht hn hst) hs hw h1) ?_
  refine h σ H _ r fun v H1 z r1 e1 i1 f1 n1 ⟨ds, ez, hl, hk⟩ => ?_
  subst ez
  obtain ⟨a, vs, rfl, s1, s2⟩ := Im.tupI i1
  exact ⟨a, vs, rfl, s1, by rw [s2.length, hl], gNs_go r1 s2 hl fun σ' r' => E.nx σ' H1 _ r' hk⟩
/-- a, b = e1, e2 -/
theorem s_par (i j : Nat) {x y : Str} {px py pt : Pos} {kt k2 pt2} (ok : W.Ok) (h : QA W ν Γ [a, b] fun ν1 zs => ∃ z1 z2, zs = [z1, z2] ∧ canSet z1 = true ∧ canSet z2 = true ∧ P.nx ν1 ((Γ.set i (some (ownS z1))).set j (some (ownS z2)))) (hij : i ≠ j := by decide)
    (hi : W.X.N[i]? = some x := by rfl) (hj : W.X.N[j]? = some y := by rfl) (hx : W.X.env.scope.names.lookup x = some .local := by rfl) (hy : W.X.env.scope.names.lookup y = some .local := by rfl)
    (hw : swappedStores [.Tuple [.Name x px, .Name y py] kt pt] (.Tuple [a, b] k2 pt2) W.X.env = pure (some [x, y]) := by rfl) (hs : swapsWithSole [.Tuple [.Name x px, .Name y py] kt pt] (.Tuple [a, b] k2 pt2) pos.line W.X.env = pure false := by rfl) :
    R1 W ν (.Assign [.Tuple [.Name x px, .Name y py] kt pt] (.Tuple [a, b] k2 pt2) pos) Γ P := fun σ H D r E => by
  refine wps_of (ps_par ok.calm ok.nd hi hj hij hx hy pa_wp hw hs) ?_
  refine h σ H _ r fun vs H1 zs r1 e1 i1 n1 ⟨z1, z2, ez, c1, c2, hk⟩ => ?_
  subst ez
  cases i1 with
  | cons q1 t1 =>
    cases t1 with
    | cons q2 t2 =>
      cases t2
      refine ⟨_, _, rfl, E.nx _ H1 _ (Rs.put (Rs.put r1 i q1.1 q1.2 c1) j q2.1 ⟨fun a ha => ⟨⟨fun m => ?_, (q2.2.fr a ha).1.2⟩, (q2.2.fr a ha).2⟩, fun a ha => ?_⟩ c2) hk⟩
      · rcases adrs_set_mem m with m | m
        · exact (q2.2.fr a ha).1.1 m
        · have hz1 : frA z1 = some a := by
            cases z1 with
            | f b xs => exact m
            | fk b xs => exact m
            | d x => cases m
            | h n x => cases m
            | _ => cases c1
          have nd := n1.nd
          have e2 : [z1, z2].filterMap frA = [a, a] := by rw [List.filterMap_cons, hz1, List.filterMap_cons, ha]; rfl
          rw [e2] at nd
          simp at nd
      · cases z2 with
        | d x => cases ha
        | f b xs => cases ha
        | fk b xs => cases ha
        | h n x => cases ha
        | _ => cases c2
/-- a, b, c = e1, e2, e3 of data, lists .. -/
theorem s_par3 (i j l : Nat) {x y z : Str} {px py pz pt : Pos} {kt k2 pt2} (ok : W.Ok) (h : QA W ν Γ [a, b, c] fun ν1 zs => ∃ z1 z2 z3, zs = [z1, z2, z3] ∧ canSet z1 = true ∧ canSet z2 = true ∧ canSet z3 = true ∧ P.nx ν1 (((Γ.set i (some (ownS z1))).set j (some (ownS z2))).set l (some (ownS z3))))
    (hij : i ≠ j := by decide) (hil : i ≠ l := by decide) (hjl : j ≠ l := by decide) (hi : W.X.N[i]? = some x := by rfl) (hj : W.X.N[j]? = some y := by rfl) (hl : W.X.N[l]? = some z := by rfl)
    (hx : W.X.env.scope.names.lookup x = some .local := by rfl) (hy : W.X.env.scope.names.lookup y = some .local := by rfl) (hz : W.X.env.scope.names.lookup z = some .local := by rfl)
    (hw : swappedStores [.Tuple [.Name x px, .Name y py, .Name z pz] kt pt] (.Tuple [a, b, c] k2 pt2) W.X.env = pure (some [x, y, z]) := by rfl) (hs : swapsWithSole [.Tuple [.Name x px, .Name y py, .Name z pz] kt pt] (.Tuple [a, b, c] k2 pt2) pos.line W.X.env = pure false := by rfl) :
    R1 W ν (.Assign [.Tuple [.Name x px, .Name y py, .Name z pz] kt pt] (.Tuple [a, b, c] k2 pt2) pos) Γ P := fun σ H D r E => by
  refine wps_of (ps_par3 ok.calm ok.nd hi hj hl hij hil hjl hx hy hz pa_wp hw hs) ?_
  refine h σ H _ r fun vs H1 zs r1 e1 i1 n1 ⟨z1, z2, z3, ez, c1, c2, c3, hk⟩ => ?_
  subst ez
  have up : ∀ {y z : Sl} {Γ : Ga}, canSet y = true → canSet z = true → Fr W Γ z → (∀ a, frA y = some a → frA z = some a → False) → ∀ i : Nat, Fr W (Γ.set i (some (ownS y))) z := by
    intro y z Γ cy cz f hne i
    refine ⟨fun a ha => ⟨⟨fun m => ?_, (f.fr a ha).1.2⟩, (f.fr a ha).2⟩, fun a ha => ?_⟩
    · rcases adrs_set_mem m with m | m
      · exact (f.fr a ha).1.1 m
      · refine hne a ?_ ha
        cases y with
        | f b xs => exact m
        | fk b xs => exact m
        | d x => cases m
        | h n x => cases m
        | _ => cases cy
    · cases z with
      | d x => cases ha
      | f b xs => cases ha
      | fk b xs => cases ha
      | h n x => cases ha
      | _ => cases cz
  cases i1 with
  | cons q1 t1 =>
    cases t1 with
    | cons q2 t2 =>
      cases t2 with
      | cons q3 t3 =>
        cases t3
        have nd := n1.nd
        have d12 : ∀ a, frA z1 = some a → frA z2 = some a → False := fun a h1 h2 => by
          have e2 : [z1, z2, z3].filterMap frA = a :: a :: [z3].filterMap frA := by rw [List.filterMap_cons, h1, List.filterMap_cons, h2]
          rw [e2] at nd
          simp at nd
        have d13 : ∀ a, frA z1 = some a → frA z3 = some a → False := fun a h1 h3 => by
          have e2 : [z1, z2, z3].filterMap frA = a :: [z2, z3].filterMap frA := by rw [List.filterMap_cons, h1]
          rw [e2] at nd
          exact (List.nodup_cons.mp nd).1 (List.mem_filterMap.mpr ⟨z3, by simp, h3⟩)
        have d23 : ∀ a, frA z2 = some a → frA z3 = some a → False := fun a h2 h3 => by
          have nd2 : ([z2, z3].filterMap frA).Nodup := by
            cases h1 : frA z1 with
            | none =>
              have e2 : [z1, z2, z3].filterMap frA = [z2, z3].filterMap frA := by rw [List.filterMap_cons, h1]
              rw [e2] at nd
              exact nd
            | some b =>
              have e2 : [z1, z2, z3].filterMap frA = b :: [z2, z3].filterMap frA := by rw [List.filterMap_cons, h1]
              rw [e2] at nd
              exact (List.nodup_cons.mp nd).2
          have e2 : [z2, z3].filterMap frA = [a, a] := by rw [List.filterMap_cons, h2, List.filterMap_cons, h3]; rfl
          rw [e2] at nd2
          simp at nd2
        exact ⟨_, _, _, rfl, E.nx _ H1 _ (Rs.put (Rs.put (Rs.put r1 i q1.1 q1.2 c1) j q2.1 (up c1 c2 q2.2 d12 i) c2) l q3.1 (up c2 c3 (up c1 c3 q3.2 d13 i) d23 j) c3) hk⟩
/-- e, its value let go -/
theorem s_expr (h : QE W ν Γ e fun ν1 _ => P.nx ν1 Γ) (hs : swapsWith e none pos.line W.X.env = pure false := by rfl) : R1 W ν (.Expr e pos) Γ P := fun σ H D r E => by
  refine wps_of (ps_expr pe_wp hs) ?_
  exact h σ H _ r fun v H1 z r1 e1 i1 f1 n1 hk => E.nx σ H1 Γ r1 hk
theorem s_ret (h : QE W ν Γ e fun ν1 z => isRet (rets z) = true ∧ P.rt ν1 (rets z)) : R1 W ν (.Return (some e) pos) Γ P := fun σ H D r E => by
  refine wps_of (ps_ret pe_wp) ?_
  refine h σ H _ r fun v H1 z r1 e1 i1 f1 n1 ⟨hr, hk⟩ => ?_
  refine E.rt v H1 (rets z) r1.ext r1.st ?_ hr (fun a ha => ?_) hk
  · cases z with
    | o a xs => exact i1
    | ok a xs => exact i1
    | _ => exact i1
  · cases z with
    | o b xs =>
      cases ha
      exact r1.own _ (f1.ad _ rfl)
    | ok b xs =>
      cases ha
      exact r1.own _ (f1.ad _ rfl)
    | f b xs =>
      cases ha
      exact (f1.fr _ rfl).2
    | fk b xs =>
      cases ha
      exact (f1.fr _ rfl).2
    | _ => cases ha
theorem s_if {t u : List Stmt} (h : QT W ν Γ c fun ν1 b => (b = true → RR W ν1 t Γ P) ∧ (b = false → RR W ν1 u Γ P)) : R1 W ν (.If c t u pos) Γ P := fun σ H D r E => by
  refine wps_of (ps_if pt_wp pss_wp pss_wp) ?_
  refine h σ H _ r fun b H1 r1 e1 h1 => ?_
  cases b with
  | true =>
    show wpSs W.X t D σ H1
    exact h1.1 rfl σ H1 D r1 E
  | false =>
    show wpSs W.X u D σ H1
    exact h1.2 rfl σ H1 D r1 E
/-- if c: .. that is not gone into -/
theorem s_ifF {t : List Stmt} (h : QT W ν Γ c fun ν1 b => b = false ∧ P.nx ν1 Γ) : R1 W ν (.If c t [] pos) Γ P := fun σ H D r E => by
  refine wps_of (ps_if pt_wp pss_wp pss_wp) ?_
  refine h σ H _ r fun b H1 r1 e1 ⟨hb, hk⟩ => ?_
  subst hb
  show wpSs W.X [] D σ H1
  exact r_nil hk σ H1 D r1 E
theorem s_never (h : False) : R1 W ν st Γ P := h.elim
/-- xs.append(e) -/
theorem s_append (i : Nat) {nm : Str} {xs : List D} (hΓ : Γ[i]? = some (some (.o p xs))) (h : QE W ν Γ e fun ν1 z => ∃ d, z = .d d ∧ xs.length < 1000 ∧ P.nx ν1 (Γ.set i (some (.o p (xs ++ [d]))))) (hN : W.X.N[i]? = some nm := by rfl) (hv : Vis W.X.env.scope nm := by first | exact Or.inl rfl | exact Or.inr (Or.inl rfl) | exact Or.inr (Or.inr rfl))
    (hd : (nm == ("__debug__" : Str)) = false := by decide) (hcd : (nm == ("__classdict__" : Str)) = false := by decide) (hbase : attributeBase (.Name nm p1) "append" W.X.env (eval (.Name nm p1) W.X.env) = eval (.Name nm p1) W.X.env := by rfl)
    (hfew : ((backTo p2 (starEach (e :: []) W.X.env)).all (fun x => !x.1) && (backToKw p2 (keywordEach [] W.X.env)).all (fun x => x.1.isSome)
      && decide ((e :: []).length + ([] : List Keyword).length + (if ([] : List Keyword).isEmpty then 0 else 1) < 30)) = true := by rfl)
    (hline : (p3.endLine == p2.line) = true := by rfl) (hs : starEach (e :: []) W.X.env = (false, eval e W.X.env) :: starEach [] W.X.env := by rfl) (hsw : swapsWith (.Call (.Attribute (.Name nm p1) "append" p3) [e] [] p2) none pos.line W.X.env = pure false := by rfl) :
    R1 W ν (.Expr (.Call (.Attribute (.Name nm p1) "append" p3) [e] [] p2) pos) Γ P := fun σ H D r E => by
  refine wps_of (ps_expr (pe_bm PySem.F.plainAttrs_list PySem.F.slot_list_append PySem.F.type_list_append mt_append (pe_var hN hv hd hcd) (pa_cons pe_wp pa_nil hs) hbase hfew hline hs rfl) hsw) ?_
  obtain ⟨v, hv1, ⟨rfl, vs, hl, hi⟩, _⟩ := r.get hΓ
  refine ⟨_, hv1, .inl ⟨rfl, vs, .inl (.inl hl)⟩, ?_⟩
  refine h σ H _ r fun v H1 z r1 e1 i1 f1 n1 ⟨d, ez, hlen, hk⟩ => ?_
  subst ez
  obtain ⟨v', hv1', ⟨rfl, vs', hl', hi'⟩, _⟩ := r1.get hΓ
  refine ⟨p, vs', v, rfl, rfl, hl', ?_, ?_⟩
  · rw [hi'.length]
    exact Nat.lt_trans hlen (by decide)
  · exact E.nx σ _ _ (Rs.updO r1 hΓ hl' (hi'.app (.cons i1 .nil))) hk
/-- xs[k] = e -/
theorem ixN_len {K : PySem.W.Frag} {vs : List V} {xs : List D} {i : Int} {j : Nat} (h : ImA K H vs xs) (e : ixN xs.length i = some j) : ixN vs.length i = some j := by
  rw [h.length]
  exact e
theorem s_setItem (i : Nat) {nm : Str} {xs : List D} {ix : Expr} (ok : W.Ok) (hΓ : Γ[i]? = some (some (.o p xs))) (h : QE W ν Γ e fun ν1 z => ∃ d, z = .d d ∧ QE W ν1 Γ ix fun ν2 y => ∃ n j, y = .d (.int n) ∧ ixN xs.length n = some j ∧ P.nx ν2 (Γ.set i (some (.o p (xs.set j d)))))
    (hN : W.X.N[i]? = some nm := by rfl) (hv : Vis W.X.env.scope nm := by first | exact Or.inl rfl | exact Or.inr (Or.inl rfl) | exact Or.inr (Or.inr rfl)) (hd : (nm == ("__debug__" : Str)) = false := by decide) (hcd : (nm == ("__classdict__" : Str)) = false := by decide)
    (ha : ∀ v, assign (.Subscript (.Name nm p1) ix p2) W.X.env v = (do
      let ov ← holding [v] (eval (.Name nm p1) W.X.env)
      let iv ← holding [v, ov] (eval ix W.X.env)
      standAt p2
      holding [v, ov, iv] (setItem ov iv v)
      release [v, ov, iv] []) := by intro _; rfl)
    (hs : swapsWithSole [.Subscript (.Name nm p1) ix p2] e pos.line W.X.env = pure false := by rfl) (hw : swappedStores [.Subscript (.Name nm p1) ix p2] e W.X.env = pure none := by rfl)
    (h1 : (assignEach [.Subscript (.Name nm p1) ix p2] W.X.env).map (·.2) = [assign (.Subscript (.Name nm p1) ix p2) W.X.env] := by rfl) : R1 W ν (.Assign [.Subscript (.Name nm p1) ix p2] e pos) Γ P := fun σ H D r E => by
  refine wps_of (ps_asg pe_wp (pg_sub (pe_var hN hv hd hcd) pe_wp set_list ha) hs hw h1) ?_
  refine h σ H _ r fun v H1 z r1 e1 i1 f1 n1 ⟨d, ez, q⟩ => ?_
  subst ez
  obtain ⟨v', hv1', _, _⟩ := r1.get hΓ
  refine ⟨v', hv1', ?_⟩
  refine q σ H1 _ r1 fun u H2 y r2 e2 i2 f2 n2 ⟨n, j, ey, hj, hk⟩ => ?_
  subst ey
  rw [Im.intI i2]
  obtain ⟨v2, hv2, ⟨rfl, vs, hl, hi⟩, _⟩ := r2.get hΓ
  rw [hv1'] at hv2
  cases hv2
  exact ⟨p, vs, n, j, rfl, rfl, hl, ixN_len hi hj, E.nx σ _ _ (Rs.updO r2 hΓ hl (ImA.set (Im.kp (e2.kp r1.st) i1) j hi)) hk⟩
/-- xs.pop() as a statement; name = xs.pop(); .. of the list in slot i -/
theorem q_popGo (i : Nat) {nm : Str} {xs : List D} {d : D} (r : W.Rs ν σ Γ H) (hΓ : Γ[i]? = some (some (.o p xs))) (hd' : xs[xs.length - 1]? = some d) {K : VK} (h : ∀ v vs, Im W.X.K (upd H p (.lst vs)) v d → W.Rs ν σ (Γ.set i (some (.o p xs.dropLast))) (upd H p (.lst vs)) → K v (upd H p (.lst vs))) :
    tBM0 W.X.K "list" rPop (tVar i) σ H K := by
  obtain ⟨v, hv1, ⟨rfl, vs, hl, hi⟩, _⟩ := r.get hΓ
  obtain ⟨w, hw, iw⟩ := hi.get hd'
  refine ⟨_, hv1, .inl ⟨rfl, vs, .inl (.inl hl)⟩, p, vs, w, rfl, rfl, hl, by rw [hi.length]; exact hw, ?_⟩
  exact h w vs.dropLast (iw.kp (.mutL hl)) (Rs.updO r hΓ hl hi.dropLast)
theorem s_pop (i : Nat) {nm : Str} {xs : List D} (hΓ : Γ[i]? = some (some (.o p xs))) (hne : xs ≠ []) (h : P.nx ν (Γ.set i (some (.o p xs.dropLast)))) (hN : W.X.N[i]? = some nm := by rfl) (hv : Vis W.X.env.scope nm := by first | exact Or.inl rfl | exact Or.inr (Or.inl rfl) | exact Or.inr (Or.inr rfl))
    (hd : (nm == ("__debug__" : Str)) = false := by decide) (hcd : (nm == ("__classdict__" : Str)) = false := by decide) (hbase : attributeBase (.Name nm p1) "pop" W.X.env (eval (.Name nm p1) W.X.env) = eval (.Name nm p1) W.X.env := by rfl)
    (hline : (p3.endLine == p2.line) = true := by rfl) (hsw : swapsWith (.Call (.Attribute (.Name nm p1) "pop" p3) [] [] p2) none pos.line W.X.env = pure false := by rfl) : R1 W ν (.Expr (.Call (.Attribute (.Name nm p1) "pop" p3) [] [] p2) pos) Γ P := fun σ H D r E => by
  refine wps_of (ps_expr (pe_bm0 PySem.F.plainAttrs_list PySem.F.slot_list_pop PySem.F.type_list_pop mt_pop (pe_var hN hv hd hcd) hbase hline) hsw) ?_
  have hl : xs.length - 1 < xs.length := by
    have := List.length_pos_iff.mpr hne
    omega
  exact q_popGo i (nm := nm) r hΓ (List.getElem?_eq_getElem hl) fun v vs i1 r1 => E.nx σ _ _ r1 h
theorem s_setPop (i j : Nat) {nm nj : Str} {xs : List D} {d : D} (ok : W.Ok) (hΓ : Γ[i]? = some (some (.o p xs))) (hd' : xs[xs.length - 1]? = some d) (h : P.nx ν ((Γ.set i (some (.o p xs.dropLast))).set j (some (.d d)))) (hN : W.X.N[i]? = some nm := by rfl) (hv : Vis W.X.env.scope nm := by first | exact Or.inl rfl | exact Or.inr (Or.inl rfl) | exact Or.inr (Or.inr rfl))
    (hd : (nm == ("__debug__" : Str)) = false := by decide) (hcd : (nm == ("__classdict__" : Str)) = false := by decide) (hbase : attributeBase (.Name nm p1) "pop" W.X.env (eval (.Name nm p1) W.X.env) = eval (.Name nm p1) W.X.env := by rfl)
    (hline : (p3.endLine == p2.line) = true := by rfl) (hj : W.X.N[j]? = some nj := by rfl) (hx : Loc W.X.env.scope nj := by first | exact Or.inl rfl | exact Or.inr rfl) (hs : swapsWith (.Call (.Attribute (.Name nm p1) "pop" p3) [] [] p2) (some (.Name nj p0)) pos.line W.X.env = pure false := by rfl)
    (hf : W.X.fn nj = true ∨ W.X.env.scope.names.lookup nj = some .local := by first | exact .inl rfl | exact .inr rfl) : R1 W ν (.Assign [.Name nj p0] (.Call (.Attribute (.Name nm p1) "pop" p3) [] [] p2) pos) Γ P := fun σ H D r E => by
  refine wps_of (ps_set ok.nd hj hx (pe_bm0 PySem.F.plainAttrs_list PySem.F.slot_list_pop PySem.F.type_list_pop mt_pop (pe_var hN hv hd hcd) hbase hline) hs hf) ?_
  exact q_popGo i (nm := nm) r hΓ hd' fun v vs i1 r1 => E.nx _ _ _ (Rs.put r1 j (z := .d d) i1 .d rfl) h
/-- d[k] = e -/
theorem putD_im {K : PySem.W.Frag} {i : Int} {v : V} {d : D} (h : Im K H v d) {vs : List (Key × V)} {kvs : List (Int × D)} (q : KvA K H vs kvs) : KvA K H (putK vs (.inl i) v) (putD kvs i d) := by
  have hany : vs.any (fun q => decide (q.1 = (Sum.inl i : Key))) = kvs.any (fun q => decide (q.1 = i)) := by
    induction q with
    | nil => rfl
    | @cons x y xs ys q _ ih =>
      rw [List.any_cons, List.any_cons, ih]
      congr 1
      rw [q.1]
      by_cases e : y.1 = i
      · simp [e]
      · simp [e]
  unfold putK putD
  rw [hany]
  split
  · rename_i hh
    clear hany hh
    induction q with
    | nil => exact .nil
    | @cons x y xs ys q _ ih =>
      rw [List.map_cons, List.map_cons]
      refine .cons ?_ ih
      by_cases e : y.1 = i
      · rw [if_pos (by rw [q.1, e]), if_pos e]
        exact ⟨by rw [q.1, e], h⟩
      · rw [if_neg (by rw [q.1]; exact fun z => e (Sum.inl.inj z)), if_neg e]
        exact q
  · exact Paired.snoc q ⟨rfl, h⟩
theorem s_dput (i : Nat) {nm : Str} {kvs : List (Int × D)} {ix : Expr} (ok : W.Ok) (hΓ : Γ[i]? = some (some (.ok p kvs))) (h : QE W ν Γ e fun ν1 z => ∃ d, z = .d d ∧ QE W ν1 Γ ix fun ν2 y => ∃ n, y = .d (.int n) ∧ kvs.length < 1000 ∧ P.nx ν2 (Γ.set i (some (.ok p (putD kvs n d)))))
    (hN : W.X.N[i]? = some nm := by rfl) (hv : Vis W.X.env.scope nm := by first | exact Or.inl rfl | exact Or.inr (Or.inl rfl) | exact Or.inr (Or.inr rfl)) (hd : (nm == ("__debug__" : Str)) = false := by decide) (hcd : (nm == ("__classdict__" : Str)) = false := by decide)
    (hs : swapsWith e (some (.Subscript (.Name nm p1) ix p2)) pos.line W.X.env = pure false := by rfl) : R1 W ν (.Assign [.Subscript (.Name nm p1) ix p2] e pos) Γ P := fun σ H D r E => by
  have hu : W.X.A.units + 1 < cLine := Nat.lt_of_le_of_lt (Nat.add_le_add_left (by decide : 1 ≤ 64) _) ok.hu
  refine wps_of (ps_dput hu (pe_var hN hv hd hcd) pe_wp pe_wp hs) ?_
  refine h σ H _ r fun v H1 z r1 e1 i1 f1 n1 ⟨d, ez, q⟩ => ?_
  subst ez
  obtain ⟨v', hv1', _, _⟩ := r1.get hΓ
  refine ⟨v', hv1', ?_⟩
  refine q σ H1 _ r1 fun u H2 y r2 e2 i2 f2 n2 ⟨n, ey, hl, hk⟩ => ?_
  subst ey
  rw [Im.intI i2]
  obtain ⟨v2, hv2, ⟨rfl, vs, hlk, hi⟩, _⟩ := r2.get hΓ
  rw [hv1'] at hv2
  cases hv2
  have hlen : vs.length = kvs.length := (paired_get2 hi).1
  exact ⟨p, _, rfl, DPut.k (k := Sum.inl n) hlk (by rw [hlen]; exact Nat.lt_trans hl (by decide)), E.nx σ _ _ (Rs.updK r2 hΓ hlk (putD_im (Im.kp (e2.kp r1.st) i1) hi)) hk⟩
end
end QL

/-! Q6: loops, comprehensions. -/
namespace QL
open PySem PySem.Spec PyProof.Rows L2
/-! ### what is walked -/
abbrev Wx.push (W : Wx) (gh : List (V × Sl)) : Wx := { W with gh := gh ++ W.gh }
theorem Wx.Ok.push {W : Wx} (ok : W.Ok) (gh : List (V × Sl)) : (W.push gh).Ok := ⟨ok.nd, ok.calm, ok.hu, ok.pass⟩
section
variable {W : Wx} {σ : L2.St} {Γ : Ga} {H H1 H2 : Hp} {ν ν' : Nat} {k k' : Nat → Sl → Prop} {Q : VK} {z : Sl} {v : V} {a b e c : Expr} {es : List Expr} {x : D} {pos p0 p1 p2 p3 : Pos} {p : Addr} {st : Stmt} {sts rest body : List Stmt} {P P' : Po} {DD : Ends} {gh : List (V × Sl)} {iter tg : Expr} {nm : Str}
theorem Rs.push1 (r : W.Rs ν σ Γ H) (i : W.Is H v z) (f : Fr W Γ z) (h : adr z = none) : (W.push [(v, z)]).Rs ν σ Γ H := by
  refine ⟨r.ext, r.st0, r.st, r.sl, r.nd, r.own, fun q hq => ?_⟩
  rcases List.mem_cons.mp hq with hq | hq
  · subst hq
    exact ⟨i, h, fun a ha => ⟨(f.fr a ha).1.1, (f.fr a ha).2⟩⟩
  · exact r.pin q hq
theorem Rs.pop (r : (W.push gh).Rs ν σ Γ H) : W.Rs ν σ Γ H := ⟨r.ext, r.st0, r.st, r.sl, r.nd, r.own, fun q hq => r.pin q (List.mem_append.mpr (.inr hq))⟩
theorem EndsOk.push (E : EndsOk W P DD) : EndsOk (W.push gh) P DD := ⟨fun σ H Γ r h => E.nx σ H Γ r.pop h, E.rt, fun σ H Γ r h => E.bk σ H Γ r.pop h, fun σ H Γ r h => E.ct σ H Γ r.pop h⟩
theorem Fr.push (f : Fr W Γ z) (h : ∀ a, frA z = some a → a ∉ pinA gh) : Fr (W.push gh) Γ z := ⟨fun a ha => ⟨⟨(f.fr a ha).1.1, fun m => by
  unfold pinA at m
  rw [List.filterMap_append, List.mem_append] at m
  rcases m with m | m
  · exact h a ha m
  · exact (f.fr a ha).1.2 m⟩, (f.fr a ha).2⟩, f.ad⟩
/-- J walks the data ds, while the slots are as GP says -/
def ItD (W : Wx) (J : It) (GP : Ga → Prop) (ds : List D) : Prop := ∀ {ν : Nat} (i : Nat) (H : Hp) (σ : L2.St) (Γ : Ga), GP Γ → W.Rs ν σ Γ H →
  (i < ds.length → J.go i H ∧ ∀ x H', J.yld i H x H' → Ext W.c H H' ∧ StOk W.c ν H' ∧ ∃ d, ds[i]? = some d ∧ Im W.X.K H' x d) ∧ (ds.length ≤ i → J.stop i H)
def QI (W : Wx) (ν : Nat) (Γ : Ga) (tg iter : Expr) (R : Nat → (Ga → Prop) → List D → Prop) : Prop := ∃ wi, PI W.X tg iter wi ∧ ∀ σ H Rr, W.Rs ν σ Γ H →
  (∀ {ν : Nat} J H1 GP ds gh, (W.push gh).Rs ν σ Γ H1 → Ext W.c H H1 → ItD (W.push gh) J GP ds → R ν GP ds → Rr J H1) → wi σ H Rr
theorem ItD.tup {a : Addr} {ds : List D} (h : (V.ref a, Sl.d (.tuple ds)) ∈ W.gh) : ItD W (Itt W.X.K a) (fun _ => True) ds := fun i H σ Γ _ r => by
  obtain ⟨q, _, _⟩ := r.pin _ h
  obtain ⟨b, vs, e, s1, s2⟩ := Im.tupI q
  cases e
  refine ⟨fun hi => ⟨?_, fun x H' hy => ?_⟩, fun hi => ⟨vs, s1, by rw [s2.length]; exact hi⟩⟩
  · have hv : i < vs.length := by
      rw [s2.length]
      exact hi
    exact ⟨vs, vs[i], s1, List.getElem?_eq_getElem hv⟩
  · obtain ⟨rfl, hx⟩ := hy
    obtain ⟨d, h1, h2⟩ := s2.getV (hx vs s1)
    exact ⟨.refl, r.st, d, h1, h2⟩
theorem qi_tup {R : Nat → (Ga → Prop) → List D → Prop} (h : QE W ν Γ e fun ν1 z => ∃ ds, z = .d (.tuple ds) ∧ R ν1 (fun _ => True) ds) : QI W ν Γ tg e R := by
  refine ⟨_, pi_tup pe_wp, fun σ H Rr r K => ?_⟩
  refine h σ H _ r fun v H1 z r1 e1 i1 f1 n1 ⟨ds, ez, hR⟩ => ?_
  subst ez
  obtain ⟨a, vs, rfl, s1, s2⟩ := Im.tupI i1
  exact ⟨a, rfl, ⟨vs, s1⟩, K _ H1 (fun _ => True) ds [(.ref a, .d (.tuple ds))] (Rs.push1 r1 i1 f1 rfl) e1 (ItD.tup (by simp)) hR⟩
/-- a list: a new one, or the caller's -/
theorem ItD.lst {a : Addr} {ds : List D} {z : Sl} (h : (V.ref a, z) ∈ W.gh) (hz : lsOf z = some ds) : ItD W (Itl W.X.K a) (fun _ => True) ds := fun i H σ Γ _ r => by
  obtain ⟨q, _, _⟩ := r.pin _ h
  obtain ⟨b, vs, e, s1, s2⟩ := Is.lst (W := W) q r hz
  cases e
  refine ⟨fun hi => ⟨?_, fun x H' hy => ?_⟩, fun hi => ⟨vs, s1, by rw [s2.length]; exact hi⟩⟩
  · have hv : i < vs.length := by
      rw [s2.length]
      exact hi
    exact ⟨vs, vs[i], s1, List.getElem?_eq_getElem hv⟩
  · obtain ⟨rfl, hx⟩ := hy
    obtain ⟨d, h1, h2⟩ := s2.getV (hx vs s1)
    exact ⟨.refl, r.st, d, h1, h2⟩
theorem qi_lst {R : Nat → (Ga → Prop) → List D → Prop} (h : QE W ν Γ e fun ν1 z => ∃ ds, lsOf z = some ds ∧ adr z = none ∧ R ν1 (fun _ => True) ds) : QI W ν Γ tg e R := by
  refine ⟨_, pi_list pe_wp, fun σ H Rr r K => ?_⟩
  refine h σ H _ r fun v H1 z r1 e1 i1 f1 n1 ⟨ds, ez, ha, hR⟩ => ?_
  obtain ⟨a, vs, rfl, s1, s2⟩ := i1.lst r1 ez
  exact ⟨a, rfl, ⟨vs, s1⟩, K _ H1 (fun _ => True) ds [(.ref a, z)] (Rs.push1 r1 i1 f1 ha) e1 (ItD.lst (by simp) ez) hR⟩
/-- a list of one's own, in the slot i -/
theorem ItD.own {a : Addr} {ds : List D} {i : Nat} : ItD W (Itl W.X.K a) (fun Γ => Γ[i]? = some (some (.o a ds))) ds := fun j H σ Γ hg r => by
  obtain ⟨v, hv, ⟨rfl, vs, h1, s2⟩, _⟩ := r.get hg
  have s1 : SqL W.X.K H a vs := .inl (.inl h1)
  refine ⟨fun hi => ⟨?_, fun x H' hy => ?_⟩, fun hi => ⟨vs, s1, by rw [s2.length]; exact hi⟩⟩
  · have hv : j < vs.length := by
      rw [s2.length]
      exact hi
    exact ⟨vs, vs[j], s1, List.getElem?_eq_getElem hv⟩
  · obtain ⟨rfl, hx⟩ := hy
    obtain ⟨d, h1, h2⟩ := s2.getV (hx vs s1)
    exact ⟨.refl, r.st, d, h1, h2⟩
theorem qi_own (i : Nat) {R : Nat → (Ga → Prop) → List D → Prop} {ds : List D} (hΓ : Γ[i]? = some (some (.o p ds))) (hR : R ν (fun Γ => Γ[i]? = some (some (.o p ds))) ds) (hN : W.X.N[i]? = some nm := by rfl) (hv : Vis W.X.env.scope nm := by first | exact Or.inl rfl | exact Or.inr (Or.inl rfl) | exact Or.inr (Or.inr rfl))
    (hd : (nm == ("__debug__" : Str)) = false := by decide) (hcd : (nm == ("__classdict__" : Str)) = false := by decide) : QI W ν Γ tg (.Name nm p1) R := by
  refine ⟨_, pi_list (pe_var hN hv hd hcd), fun σ H Rr r K => ?_⟩
  obtain ⟨v, hv, ⟨rfl, vs, h1, s2⟩, _⟩ := r.get hΓ
  exact ⟨_, hv, p, rfl, ⟨vs, .inl (.inl h1)⟩, K _ H _ ds [] r .refl ItD.own hR⟩
theorem ItD.range {lo : Int} {n : Nat} : ItD W (Itr lo n) (fun _ => True) ((List.range n).map fun (i : Nat) => PyData.int (lo + (i : Int))) := fun i H σ Γ _ r => by
  refine ⟨fun hi => ⟨?_, fun x H' hy => ?_⟩, fun hi => ?_⟩
  · show i < n
    simpa using hi
  · obtain ⟨rfl, rfl⟩ := hy
    refine ⟨.refl, r.st, .int (lo + (i : Int)), ?_, .int _⟩
    have hn : i < n := by simpa using hi
    rw [List.getElem?_map, List.getElem?_range hn]
    rfl
  · show n ≤ i
    simpa using hi
theorem qi_range1 {R : Nat → (Ga → Prop) → List D → Prop} (hm : W.X.mg "range" = none) (h : QE W ν Γ e fun ν1 z => ∃ n : Int, z = .d (.int n) ∧ (-100000 ≤ n ∧ n ≤ 100000) ∧ R ν1 (fun _ => True) ((List.range n.toNat).map fun (i : Nat) => PyData.int (i : Int))) (hg : Gl W.X "range" := by rfl)
    (hs : starEach [e] W.X.env = [(false, eval e W.X.env)] := by rfl) : QI W ν Γ tg (.Call (.Name "range" p0) [e] [] pos) R := by
  refine ⟨_, pi_range1 hg hm (pa_cons pe_wp pa_nil hs) hs, fun σ H Rr r K => ?_⟩
  refine h σ H _ r fun v H1 z r1 e1 i1 f1 n1 ⟨n, ez, hn, hR⟩ => ?_
  subst ez
  rw [Im.intI i1]
  refine ⟨n, rfl, by omega, by omega, ?_⟩
  have e0 : ((List.range n.toNat).map fun (i : Nat) => PyData.int (i : Int)) = (List.range n.toNat).map fun (i : Nat) => PyData.int (0 + (i : Int)) := by
    apply List.map_congr_left
    intro i _
    rw [Int.zero_add]
  rw [e0] at hR
  exact K _ H1 _ _ [] r1 e1 ItD.range hR
theorem qi_range2 {R : Nat → (Ga → Prop) → List D → Prop} (hm : W.X.mg "range" = none) (h : QE W ν Γ a fun ν1 z => ∃ lo : Int, z = .d (.int lo) ∧ QE W ν1 Γ b fun ν2 z => ∃ hi : Int, z = .d (.int hi) ∧ (-100000 ≤ lo ∧ lo ≤ 100000 ∧ -100000 ≤ hi ∧ hi ≤ 100000) ∧ R ν2 (fun _ => True) ((List.range (hi - lo).toNat).map fun (i : Nat) => PyData.int (lo + (i : Int)))) (hg : Gl W.X "range" := by rfl)
    (hs : starEach [a, b] W.X.env = [(false, eval a W.X.env), (false, eval b W.X.env)] := by rfl) (hs2 : starEach [b] W.X.env = [(false, eval b W.X.env)] := by rfl) : QI W ν Γ tg (.Call (.Name "range" p0) [a, b] [] pos) R := by
  refine ⟨_, pi_range2 hg hm (pa_cons pe_wp (pa_cons pe_wp pa_nil hs2) (hs.trans (by rw [hs2]))) hs hs2, fun σ H Rr r K => ?_⟩
  refine h σ H _ r fun v H1 z r1 e1 i1 f1 n1 ⟨lo, ez, q⟩ => ?_
  subst ez
  refine q σ H1 _ r1 fun u H2 y r2 e2 i2 f2 n2 ⟨hi, ey, hb, hR⟩ => ?_
  subst ey
  rw [Im.intI i1, Im.intI i2]
  exact ⟨lo, hi, rfl, by omega, K _ H2 _ _ [] r2 (e1.trans e2) ItD.range hR⟩
/-- reversed(t), t a tuple -/
theorem ItD.rev {a : Addr} {ds : List D} (h : (V.ref a, Sl.d (.tuple ds)) ∈ W.gh) {n : Nat} (hn : n = ds.length) : ItD W (RT.ItvT W.X.K a n) (fun _ => True) ds.reverse := fun i H σ Γ _ r => by
  obtain ⟨q, _, _⟩ := r.pin _ h
  obtain ⟨b, vs, e, s1, s2⟩ := Im.tupI q
  cases e
  have hl := s2.length
  refine ⟨fun hi => ⟨?_, fun x H' hy => ?_⟩, fun hi => ?_⟩
  · have hi' : i < ds.length := by simpa using hi
    have hv : n - 1 - i < vs.length := by omega
    exact ⟨by omega, vs, vs[n - 1 - i], s1, List.getElem?_eq_getElem hv⟩
  · obtain ⟨rfl, hx⟩ := hy
    obtain ⟨d, h1, h2⟩ := s2.getV (hx vs s1)
    refine ⟨.refl, r.st, d, ?_, h2⟩
    have hi' : i < ds.length := by simpa using hi
    rw [List.getElem?_reverse hi', ← hn]
    exact h1
  · have : ds.length ≤ i := by simpa using hi
    show n ≤ i
    omega
theorem qi_rev {R : Nat → (Ga → Prop) → List D → Prop} (hm : W.X.mg "reversed" = none) (h : QE W ν Γ e fun ν1 z => ∃ ds, z = .d (.tuple ds) ∧ R ν1 (fun _ => True) ds.reverse) (hg : Gl W.X "reversed" := by rfl) (hs : starEach [e] W.X.env = (false, eval e W.X.env) :: starEach [] W.X.env := by rfl) :
    QI W ν Γ tg (.Call (.Name "reversed" p0) [e] [] pos) R := by
  refine ⟨_, RT.pi_revA hg hm pe_wp hs, fun σ H Rr r K => ?_⟩
  refine h σ H _ r fun v H1 z r1 e1 i1 f1 n1 ⟨ds, ez, hR⟩ => ?_
  subst ez
  obtain ⟨a, vs, rfl, s1, s2⟩ := Im.tupI i1
  exact ⟨a, vs, rfl, .inr ⟨s1, K _ H1 (fun _ => True) ds.reverse [(.ref a, .d (.tuple ds))] (Rs.push1 r1 i1 f1 rfl) e1 (ItD.rev (by simp) s2.length) hR⟩⟩
/-- zip of two tuples -/
def zipD (xs ys : List D) : List D := List.zipWith (fun x y => PyData.tuple [x, y]) xs ys
theorem ItD.zip {a b : Addr} {ds es : List D} (h1 : (V.ref a, Sl.d (.tuple ds)) ∈ W.gh) (h2 : (V.ref b, Sl.d (.tuple es)) ∈ W.gh) : ItD W (RZ.ItzT W.X.K a b) (fun _ => True) (zipD ds es) := fun i H σ Γ _ r => by
  obtain ⟨q, _, _⟩ := r.pin _ h1
  obtain ⟨_, vs, e, s1, s2⟩ := Im.tupI q
  cases e
  obtain ⟨q', _, _⟩ := r.pin _ h2
  obtain ⟨_, us, e, t1, t2⟩ := Im.tupI q'
  cases e
  have hl := s2.length
  have hl2 := t2.length
  have hz : (zipD ds es).length = min ds.length es.length := by
    unfold zipD
    exact List.length_zipWith
  refine ⟨fun hi => ⟨?_, fun x H' hy => ?_⟩, fun hi => ?_⟩
  · rw [hz] at hi
    have g1 : i < vs.length := by omega
    have g2 : i < us.length := by omega
    exact ⟨vs, us, _, _, s1, t1, List.getElem?_eq_getElem g1, List.getElem?_eq_getElem g2⟩
  · obtain ⟨T, x1, y1, rfl, nT, rfl, f1, f2⟩ := hy
    obtain ⟨d, g1, g2⟩ := s2.getV (f1 vs s1)
    obtain ⟨d2, g3, g4⟩ := t2.getV (f2 us t1)
    refine ⟨.new nT, r.st.new nT, .tuple [d, d2], ?_, .tup (.inl (.inl upd_same)) (.cons (g2.kp (.new nT)) (.cons (g4.kp (.new nT)) .nil))⟩
    unfold zipD
    rw [List.getElem?_zipWith, g1, g3]
  · rw [hz] at hi
    refine ⟨vs, us, s1, t1, ?_⟩
    omega
theorem qi_zip {R : Nat → (Ga → Prop) → List D → Prop} {elts : List Expr} {kk : Nat} (hm : W.X.mg "zip" = none) (h : QE W ν Γ a fun ν1 z => ∃ ds, z = .d (.tuple ds) ∧ QE W ν1 Γ b fun ν2 z => ∃ es, z = .d (.tuple es) ∧ R ν2 (fun _ => True) (zipD ds es)) (hg : Gl W.X "zip" := by rfl)
    (hs : starEach [a, b] W.X.env = (false, eval a W.X.env) :: starEach [b] W.X.env := by rfl) (hs2 : starEach [b] W.X.env = (false, eval b W.X.env) :: starEach [] W.X.env := by rfl) (hpl : (backTo pos (starEach [b] W.X.env)).any (·.1) = false := by rfl) :
    QI W ν Γ (.Tuple elts kk p1) (.Call (.Name "zip" p0) [a, b] [] pos) R := by
  refine ⟨_, RZ.pi_zipA hg hm (pa_cons pe_wp (pa_cons pe_wp pa_nil hs2) hs) hs hpl, fun σ H Rr r K => ?_⟩
  refine h σ H _ r fun v H1 z r1 e1 i1 f1 n1 ⟨ds, ez, q⟩ => ?_
  subst ez
  refine q σ H1 _ r1 fun {ν2} u H2 y r2 e2 i2 f2 n2 ⟨es, ey, hR⟩ => ?_
  subst ey
  have i1' := i1.over f1 r1 e2
  obtain ⟨a, vs, rfl, s1, s2⟩ := Im.tupI i1'
  obtain ⟨b, us, rfl, t1, t2⟩ := Im.tupI i2
  have rp : (W.push [(.ref a, .d (.tuple ds)), (.ref b, .d (.tuple es))]).Rs ν2 σ Γ H2 := by
    refine ⟨r2.ext, r2.st0, r2.st, r2.sl, r2.nd, r2.own, fun q hq => ?_⟩
    rcases List.mem_cons.mp hq with hq | hq
    · subst hq
      exact ⟨i1', rfl, fun a ha => nomatch ha⟩
    · rcases List.mem_cons.mp hq with hq | hq
      · subst hq
        exact ⟨i2, rfl, fun a ha => nomatch ha⟩
      · exact r2.pin q hq
  exact ⟨a, b, vs, us, rfl, .inr ⟨s1, t1, K _ H2 (fun _ => True) _ [(.ref a, .d (.tuple ds)), (.ref b, .d (.tuple es))] rp (e1.trans e2) (ItD.zip (by simp) (by simp)) hR⟩⟩
/-! ### targets -/
theorem wipe_get {σ : L2.St} {j : Nat} : ∀ {vs : List Nat}, (wipe σ vs)[j]? = if j ∈ vs then (if j < σ.length then some none else none) else σ[j]?
  | [] => by simp [wipe]
  | v :: vs => by
    unfold wipe
    rw [List.getElem?_set, wipe_length, wipe_get (vs := vs)]
    by_cases e : v = j
    · subst e
      simp
    · have e' : ¬ j = v := fun q => e q.symm
      simp [e, e']
theorem wipe_set {σ : L2.St} {vs : List Nat} {j : Nat} {x : Option V} (h : j ∈ vs) : wipe (σ.set j x) vs = wipe σ vs := by
  apply List.ext_getElem?
  intro i
  rw [wipe_get, wipe_get, List.length_set]
  by_cases hi : i ∈ vs
  · rw [if_pos hi, if_pos hi]
  · rw [if_neg hi, if_neg hi, List.getElem?_set_ne]
    rintro rfl
    exact hi h
theorem wipe_wipe {σ : L2.St} {vs : List Nat} : wipe (wipe σ vs) vs = wipe σ vs := by
  apply List.ext_getElem?
  intro i
  rw [wipe_get, wipe_length, wipe_get]
  by_cases hi : i ∈ vs
  · rw [if_pos hi, if_pos hi]
  · rw [if_neg hi, if_neg hi]
def wipeG (Γ : Ga) : List Nat → Ga
  | [] => Γ
  | v :: vs => (wipeG Γ vs).set v none
theorem Rs.wipe (r : W.Rs ν σ Γ H) : ∀ vs : List Nat, W.Rs ν (wipe σ vs) (wipeG Γ vs) H
  | [] => r
  | v :: vs => Rs.clear (Rs.wipe r vs) v none
structure TgD (W : Wx) (g : TG) (js : List Nat) (sd : Ga → D → Ga → Prop) : Prop where
  go : ∀ {ν : Nat} σ Γ H x d Γ' (K : L2.St → Hp → Prop), W.Rs ν σ Γ H → Im W.X.K H x d → sd Γ d Γ' → (∀ σ', W.Rs ν σ' Γ' H → (∀ vs : List Nat, (∀ j, j ∈ js → j ∈ vs) → wipe σ' vs = wipe σ vs) → K σ' H) → g x σ H K
def sd1 (j : Nat) (Γ : Ga) (d : D) (Γ' : Ga) : Prop := Γ' = Γ.set j (some (.d d))
def sdN (is : List Nat) (Γ : Ga) (d : D) (Γ' : Ga) : Prop := ∃ ds, d = .tuple ds ∧ is.length = ds.length ∧ Γ' = setG Γ is ds
theorem tg1 (j : Nat) : TgD W (gName j) [j] (sd1 j) := ⟨fun σ Γ H x d Γ' K r i h k => by
  subst h
  exact k _ (Rs.put r j (z := .d d) i .d rfl) fun vs hv => wipe_set (hv j (by simp))⟩
theorem gNs_go2 : ∀ {is : List Nat} {vs : List V} {ds : List D} {σ : L2.St} {Γ : Ga} {K : L2.St → Hp → Prop}, W.Rs ν σ Γ H → ImA W.X.K H vs ds → is.length = ds.length →
    (∀ σ', W.Rs ν σ' (setG Γ is ds) H → (∀ ws : List Nat, (∀ j, j ∈ is → j ∈ ws) → wipe σ' ws = wipe σ ws) → K σ' H) → gNs is vs σ H K
  | [], _, [], σ, Γ, K, r, i, _, k => by
    cases i
    exact ⟨rfl, k σ r fun _ _ => rfl⟩
  | j :: is, _, d :: ds, σ, Γ, K, r, i, hl, k => by
    cases i with
    | cons q t =>
      refine ⟨_, _, rfl, gNs_go2 (Rs.put r j (z := .d d) q .d rfl) t (by simpa using hl) fun σ' r' hw => k σ' r' fun ws h => ?_⟩
      rw [hw ws fun j hj => h j (List.mem_cons_of_mem _ hj), wipe_set (h j List.mem_cons_self)]
  | [], _, _ :: _, _, _, _, _, _, h, _ => by simp at h
  | _ :: _, _, [], _, _, _, _, _, h, _ => by simp at h
theorem tgN (is : List Nat) : TgD W (gTup W.X.K is.length (gNs is)) is (sdN is) := ⟨fun σ Γ H x d Γ' K r i h k => by
  obtain ⟨ds, rfl, hl, rfl⟩ := h
  obtain ⟨a, vs, rfl, s1, s2⟩ := Im.tupI i
  exact ⟨a, vs, rfl, s1, by rw [s2.length, hl], gNs_go2 r s2 hl k⟩⟩
/-! ### for -/
theorem s_forT {g : TG} {js : List Nat} {sd : Ga → D → Ga → Prop} (ok : W.Ok) (hg : PG W.X tg g) (T : ∀ gh, TgD (W.push gh) g js sd)
    (h : QI W ν Γ tg iter fun ν1 GP ds => (∀ Γ, GP Γ) ∧ ∃ IV : Nat → Nat → Ga → Prop, IV 0 ν1 Γ ∧ (∀ i ν d Γ', ds[i]? = some d → IV i ν Γ' → ∃ Γ2, sd Γ' d Γ2 ∧ ∀ gh, RR (W.push gh) ν body Γ2 { P with nx := IV (i + 1), ct := IV (i + 1), bk := P.nx }) ∧ ∀ ν Γ', IV ds.length ν Γ' → P.nx ν Γ')
    (hs : ∀ x, foldedSetIterable iter W.X.env x = pure x := by intro _; rfl) : R1 W ν (.For tg iter body [] pos) Γ P := fun σ H D r E => by
  obtain ⟨wi, hi, hw⟩ := h
  refine wps_of (ps_for ok.pass ok.calm hi hg pss_wp hs) ?_
  refine hw σ H _ r fun {ν1} J H1 GP ds gh r1 e1 it ⟨hGP, IV, h0, hstep, hend⟩ => ?_
  refine ⟨fun i m σ H => m = ds.length - i ∧ i ≤ ds.length ∧ ∃ (ν2 : Nat) (Γ' : Ga), (W.push gh).Rs ν2 σ Γ' H ∧ IV i ν2 Γ', ⟨ds.length, by simp, Nat.zero_le _, ν1, Γ, r1, h0⟩, ?_⟩
  rintro i m σ1 H2 ⟨rfl, hi2, ν2, Γ', r2, inv⟩
  obtain ⟨t1, t2⟩ := it i H2 σ1 Γ' (hGP Γ') r2
  by_cases hlt : i < ds.length
  · obtain ⟨g1, g2⟩ := t1 hlt
    refine .inr ⟨g1, fun σ' H' => ∃ (ν2 : Nat) (Γ' : Ga), (W.push gh).Rs ν2 σ' Γ' H' ∧ IV (i + 1) ν2 Γ', fun σ' H' ⟨ν3, Γ3, r3, inv3⟩ => ⟨ds.length - (i + 1), by omega, rfl, hlt, ν3, Γ3, r3, inv3⟩, fun x H' hy => ?_⟩
    obtain ⟨ex, st, d, hd, hx⟩ := g2 x H' hy
    have r3 := Rs.extd r2 ex st
    obtain ⟨Γ2, hsd, hb⟩ := hstep i ν2 d Γ' hd inv
    refine (T gh).go σ1 Γ' H' x d Γ2 _ r3 hx hsd fun σ' r4 _ => ?_
    refine hb gh σ' H' _ r4 ⟨fun σ5 H5 Γ5 r5 q => ⟨_, Γ5, r5, q⟩, E.rt, fun σ5 H5 Γ5 r5 q => E.nx σ5 H5 Γ5 r5.pop q, fun σ5 H5 Γ5 r5 q => ⟨_, Γ5, r5, q⟩⟩
  · have e : i = ds.length := by omega
    subst e
    exact .inl ⟨t2 (Nat.le_refl _), E.nx σ1 H2 Γ' r2.pop (hend ν2 Γ' inv)⟩
/-- one name -/
theorem s_forW (j : Nat) (ok : W.Ok) (h : QI W ν Γ (.Name nm p1) iter fun ν1 GP ds => (∀ Γ, GP Γ) ∧ ∃ IV : Nat → Nat → Ga → Prop, IV 0 ν1 Γ ∧ (∀ i ν d Γ', ds[i]? = some d → IV i ν Γ' → ∀ gh, RR (W.push gh) ν body (Γ'.set j (some (.d d))) { P with nx := IV (i + 1), ct := IV (i + 1), bk := P.nx }) ∧ ∀ ν Γ', IV ds.length ν Γ' → P.nx ν Γ')
    (hj : W.X.N[j]? = some nm := by rfl) (hx : Loc W.X.env.scope nm := by first | exact Or.inl rfl | exact Or.inr rfl) (hf : W.X.fn nm = true ∨ W.X.env.scope.names.lookup nm = some .local := by first | exact .inl rfl | exact .inr rfl)
    (hs : ∀ x, foldedSetIterable iter W.X.env x = pure x := by intro _; rfl) : R1 W ν (.For (.Name nm p1) iter body [] pos) Γ P := by
  refine s_forT ok (pg_name ok.nd hj hx hf) (fun gh => tg1 j) ?_ hs
  obtain ⟨wi, hi, hw⟩ := h
  refine ⟨wi, hi, fun σ H Rr r K => hw σ H Rr r fun J H1 GP ds gh a b c ⟨hG, IV, h0, h1, h2⟩ => K J H1 GP ds gh a b c ⟨hG, IV, h0, fun i ν d Γ' q1 q2 => ⟨_, rfl, h1 i ν d Γ' q1 q2⟩, h2⟩⟩
/-- one name, with no draws -/
theorem s_for (j : Nat) (ok : W.Ok) (h : QI W ν Γ (.Name nm p1) iter fun ν1 GP ds => (∀ Γ, GP Γ) ∧ ∃ IV : Nat → Ga → Prop, IV 0 Γ ∧ (∀ i d Γ', ds[i]? = some d → IV i Γ' → ∀ gh, RR (W.push gh) ν1 body (Γ'.set j (some (.d d))) { P with nx := fun ν' Γ' => ν' = ν1 ∧ IV (i + 1) Γ', ct := fun ν' Γ' => ν' = ν1 ∧ IV (i + 1) Γ', bk := P.nx }) ∧ ∀ Γ', IV ds.length Γ' → P.nx ν1 Γ')
    (hj : W.X.N[j]? = some nm := by rfl) (hx : Loc W.X.env.scope nm := by first | exact Or.inl rfl | exact Or.inr rfl) (hf : W.X.fn nm = true ∨ W.X.env.scope.names.lookup nm = some .local := by first | exact .inl rfl | exact .inr rfl)
    (hs : ∀ x, foldedSetIterable iter W.X.env x = pure x := by intro _; rfl) : R1 W ν (.For (.Name nm p1) iter body [] pos) Γ P := by
  refine s_forW j ok ?_ hj hx hf hs
  obtain ⟨wi, hi, hw⟩ := h
  refine ⟨wi, hi, fun σ H Rr r K => hw σ H Rr r fun {ν1} J H1 GP ds gh a b c ⟨hG, IV, h0, h1, h2⟩ => K J H1 GP ds gh a b c ⟨hG, fun i ν' Γ' => ν' = ν1 ∧ IV i Γ', ⟨rfl, h0⟩, fun i ν' d Γ' q1 q2 => ?_, fun ν' Γ' q => ?_⟩⟩
  · obtain ⟨rfl, q2⟩ := q2
    exact h1 i d Γ' q1 q2
  · obtain ⟨rfl, q⟩ := q
    exact h2 Γ' q
/-- names of a tuple -/
theorem s_forN (is : List Nat) {ts : List Expr} {k1 : Nat} (ok : W.Ok) (ht : PGs W.X ts (gNs is)) (h : QI W ν Γ (.Tuple ts k1 p1) iter fun ν1 GP ds => (∀ Γ, GP Γ) ∧ ∃ IV : Nat → Ga → Prop, IV 0 Γ ∧
      (∀ i d Γ', ds[i]? = some d → IV i Γ' → ∃ xs, d = .tuple xs ∧ is.length = xs.length ∧ ∀ gh, RR (W.push gh) ν1 body (setG Γ' is xs) { P with nx := fun ν' Γ' => ν' = ν1 ∧ IV (i + 1) Γ', ct := fun ν' Γ' => ν' = ν1 ∧ IV (i + 1) Γ', bk := P.nx }) ∧ ∀ Γ', IV ds.length Γ' → P.nx ν1 Γ')
    (hn : (assignEach ts W.X.env).length = is.length := by rfl) (hst : (assignEach ts W.X.env).findIdx? (·.1) = none := by rfl) (hs : ∀ x, foldedSetIterable iter W.X.env x = pure x := by intro _; rfl) : R1 W ν (.For (.Tuple ts k1 p1) iter body [] pos) Γ P := by
  refine s_forT ok (pg_tup ok.calm ht hn hst) (fun gh => tgN is) ?_ hs
  obtain ⟨wi, hi, hw⟩ := h
  refine ⟨wi, hi, fun σ H Rr r K => hw σ H Rr r fun {ν1} J H1 GP ds gh a b c ⟨hG, IV, h0, h1, h2⟩ => K J H1 GP ds gh a b c ⟨hG, fun i ν' Γ' => ν' = ν1 ∧ IV i Γ', ⟨rfl, h0⟩, fun i ν' d Γ' q1 q2 => ?_, fun ν' Γ' q => ?_⟩⟩
  · obtain ⟨rfl, q2⟩ := q2
    obtain ⟨xs, e, hl, hb⟩ := h1 i d Γ' q1 q2
    exact ⟨_, ⟨xs, e, hl, rfl⟩, hb⟩
  · obtain ⟨rfl, q⟩ := q
    exact h2 Γ' q
/-! ### while -/
theorem s_whileW (IV : Nat → Nat → Ga → Prop) (ok : W.Ok) (h0 : ∃ m, IV m ν Γ) (hs : ∀ m ν Γ, IV m ν Γ → QT W ν Γ c fun ν1 b => (b = true → RR W ν1 body Γ { P with nx := fun ν' Γ' => ∃ m', m' < m ∧ IV m' ν' Γ', ct := fun ν' Γ' => ∃ m', m' < m ∧ IV m' ν' Γ', bk := P.nx }) ∧ (b = false → P.nx ν1 Γ)) :
    R1 W ν (.While c body [] pos) Γ P := fun σ H D r E => by
  refine wps_of (ps_while ok.pass pt_wp pss_wp) ?_
  obtain ⟨m0, i0⟩ := h0
  refine ⟨fun m σ H => ∃ (ν1 : Nat) (Γ' : Ga), W.Rs ν1 σ Γ' H ∧ IV m ν1 Γ', ⟨m0, ν, Γ, r, i0⟩, ?_⟩
  rintro m σ1 H1 ⟨ν1, Γ1, r1, i1⟩
  refine hs m ν1 Γ1 i1 σ1 H1 _ r1 fun b H2 r2 e2 hb => ?_
  cases b with
  | false =>
    show D.nx σ1 H2
    exact E.nx σ1 H2 Γ1 r2 (hb.2 rfl)
  | true =>
    show ∃ N : L2.St → Hp → Prop, _
    refine ⟨fun σ' H' => ∃ m', m' < m ∧ ∃ (ν1 : Nat) (Γ' : Ga), W.Rs ν1 σ' Γ' H' ∧ IV m' ν1 Γ', fun σ' H' q => q, ?_⟩
    refine hb.1 rfl σ1 H2 _ r2 ⟨fun σ5 H5 Γ5 r5 ⟨m', hm, q⟩ => ⟨m', hm, _, Γ5, r5, q⟩, E.rt, fun σ5 H5 Γ5 r5 q => E.nx σ5 H5 Γ5 r5 q, fun σ5 H5 Γ5 r5 ⟨m', hm, q⟩ => ⟨m', hm, _, Γ5, r5, q⟩⟩
/-- with no draws -/
theorem s_while (IV : Nat → Ga → Prop) (ok : W.Ok) (h0 : ∃ m, IV m Γ) (hs : ∀ m Γ, IV m Γ → QT W ν Γ c fun ν1 b => ν1 = ν ∧ (b = true → RR W ν body Γ { P with nx := fun ν' Γ' => ν' = ν ∧ ∃ m', m' < m ∧ IV m' Γ', ct := fun ν' Γ' => ν' = ν ∧ ∃ m', m' < m ∧ IV m' Γ', bk := P.nx }) ∧ (b = false → P.nx ν Γ)) :
    R1 W ν (.While c body [] pos) Γ P := by
  refine s_whileW (fun m ν' Γ => ν' = ν ∧ IV m Γ) ok (h0.imp fun m q => ⟨rfl, q⟩) ?_
  rintro m ν' Γ ⟨rfl, q⟩
  intro σ H Q r K
  refine hs m Γ q σ H Q r fun b H' r' e ⟨e1, h1, h2⟩ => K b H' r' e ?_
  subst e1
  refine ⟨fun hb => ?_, h2⟩
  intro σ H D r E
  refine h1 hb σ H D r ⟨fun σ H Γ r ⟨e, m', hm, q⟩ => E.nx σ H Γ r ⟨m', hm, e, q⟩, E.rt, E.bk, fun σ H Γ r ⟨e, m', hm, q⟩ => E.ct σ H Γ r ⟨m', hm, e, q⟩⟩
end
end QL

/-! Q7: comprehensions; a def's body. -/
namespace QL
open PySem PySem.Spec PyProof.Rows L2
abbrev Wx.blk (W : Wx) (s : Shared) (H : Hp) (scope : Scope) (C : Addr) (cl : List (Str × Addr)) (fp : List Addr) : Wx := { W with X := W.X.blk s H scope (compEnvC scope cl C W.X.env) fp }
theorem Wx.Ok.blk {W : Wx} (ok : W.Ok) (s : Shared) (H : Hp) (scope : Scope) (C : Addr) (cl : List (Str × Addr)) (fp : List Addr) : (W.blk s H scope C cl fp).Ok := ⟨ok.nd, ok.calm, ok.hu, PassesOwn.never⟩
def QEt (W : Wx) (ν : Nat) (Γ : Ga) (te : TE) (k : Nat → Sl → Prop) : Prop := ∀ σ H Q, W.Rs ν σ Γ H → Kt W σ Γ H k Q → te σ H Q
def QC (W : Wx) (ν : Nat) (Γ : Ga) (elt tg iter : Expr) (ifs : List Expr) (scope : Scope) (k : Nat → Sl → Prop) : Prop := ∃ (own : List (Str × Nat)) (wi : TI) (g : TG) (tt : TT) (te : TE), PI W.X tg iter wi ∧ BlkOk W.X.N W.X.env.scope scope own ∧
  (∀ (s : Shared) (H : Hp) (C : Addr) (cl : List (Str × Addr)) (fp : List Addr), PG (W.X.blk s H scope (compEnvC scope cl C W.X.env) fp) tg g) ∧ (∀ (s : Shared) (H : Hp) (C : Addr) (cl : List (Str × Addr)) (fp : List Addr), PTs (W.X.blk s H scope (compEnvC scope cl C W.X.env) fp) ifs tt) ∧
  (∀ (s : Shared) (H : Hp) (C : Addr) (cl : List (Str × Addr)) (fp : List Addr), PE (W.X.blk s H scope (compEnvC scope cl C W.X.env) fp) elt te) ∧ ∀ σ H Q, W.Rs ν σ Γ H → Kt W σ Γ H k Q → tLc wi g tt te (own.map (·.2)) σ H Q
section
variable {W : Wx} {σ : L2.St} {Γ : Ga} {H H1 H2 : Hp} {ν ν' : Nat} {k k' : Nat → Sl → Prop} {Q : VK} {z : Sl} {v : V} {a b c e elt tg iter : Expr} {ifs : List Expr} {x : D} {pos p0 p1 p2 p3 : Pos} {p : Addr} {P P' : Po} {DD : Ends} {gh : List (V × Sl)} {nm : Str} {scope : Scope}
theorem q_lc (ok : W.Ok) (h : QC W ν Γ elt tg iter ifs scope k) (hs : ∀ x, foldedSetIterable iter W.X.env x = pure x := by intro _; rfl) : QE W ν Γ (.ListComp elt [⟨tg, iter, ifs, 0⟩] scope pos) k := fun σ H Q r K => by
  obtain ⟨own, wi, g, tt, te, h1, h2, h3, h4, h5, h6⟩ := h
  exact wp_of (pe_lc ok.calm ok.nd h1 h2 h3 h4 h5 hs) (h6 σ H Q r K)
/-- name = [..] -/
theorem s_setLc (i : Nat) (ok : W.Ok) (h : QC W ν Γ elt tg iter ifs scope fun ν1 z => canSet z = true ∧ P.nx ν1 (Γ.set i (some (ownS z)))) (hi : W.X.N[i]? = some nm := by rfl) (hyl : W.X.env.scope.names.lookup nm = some .local := by rfl)
    (hsw : swapsWith (.ListComp elt [⟨tg, iter, ifs, 0⟩] scope p2) (some (.Name nm p1)) pos.line W.X.env = pure true := by exact sw_true rfl rfl rfl (by decide +kernel)) (hs : ∀ x, foldedSetIterable iter W.X.env x = pure x := by intro _; rfl) : R1 W ν (.Assign [.Name nm p1] (.ListComp elt [⟨tg, iter, ifs, 0⟩] scope p2) pos) Γ P := fun σ H D r E => by
  obtain ⟨own, wi, g, tt, te, h1, h2, h3, h4, h5, h6⟩ := h
  refine wps_of (ps_setLc ok.calm ok.nd hi hyl hsw h1 h2 h3 h4 h5 hs) ?_
  exact h6 σ H (fun x H1 => gName i x σ H1 D.nx) r fun v H1 z r1 e1 i1 f1 n1 ⟨hc, hk⟩ => E.nx _ H1 _ (Rs.put r1 i i1 f1 hc) hk
theorem lc_go {g : TG} {tt : TT} {te : TE} {vs js : List Nat} {sd : Ga → D → Ga → Prop} {wi : TI} (T : ∀ gh, TgD (W.push gh) g js sd) (hjs : ∀ j, j ∈ js → j ∈ vs)
    (hw : ∀ σ H Rr, W.Rs ν σ Γ H → (∀ {ν : Nat} J H1 GP ds gh, (W.push gh).Rs ν σ Γ H1 → Ext W.c H H1 → ItD (W.push gh) J GP ds → (GP (wipeG Γ vs) ∧ ds.length ≤ 1000 ∧ ∃ IV : Nat → Nat → List D → Prop, IV 0 ν [] ∧
      (∀ i ν d acc, ds[i]? = some d → IV i ν acc → acc.length ≤ i → ∃ Γ2, sd (wipeG Γ vs) d Γ2 ∧ ∀ gh, QTw (W.push gh) ν Γ2 tt fun ν1 b => (b = true → QEt (W.push gh) ν1 Γ2 te fun ν2 z => ∃ y, z = .d y ∧ IV (i + 1) ν2 (acc ++ [y])) ∧ (b = false → IV (i + 1) ν1 acc)) ∧
      ∀ ν acc, IV ds.length ν acc → acc.length ≤ ds.length → ∀ p, k ν (.f p acc)) → Rr J H1) → wi σ H Rr) : ∀ σ H Q, W.Rs ν σ Γ H → Kt W σ Γ H k Q → tLc wi g tt te vs σ H Q := fun σ H Q r K => by
  refine hw σ H _ r fun {ν1} J H1 GP ds gh r1 e1 it ⟨hGP, hl, IV, h0, hstep, hend⟩ => ?_
  intro D hD
  have hD0 : W.H0 D = none := Rs.fresh r1.pop hD
  have nmt : ¬ Mt W.c D := r1.nmt hD0
  refine ⟨fun i m H => m = ds.length - i ∧ i ≤ ds.length ∧ Ext W.c H1 H ∧ ∃ ν, StOk W.c ν H ∧ ∃ us acc, H D = some (.lst us) ∧ ImA W.X.K H us acc ∧ acc.length ≤ i ∧ IV i ν acc, ⟨ds.length, by simp, Nat.zero_le _, .new hD, ν1, r1.st.new hD, [], [], upd_same, .nil, Nat.le_refl _, h0⟩, ?_⟩
  rintro i m H2 ⟨rfl, hi, e2, ν2, st2, us, acc, hus, ima, hla, iv⟩
  have r2 : (W.push gh).Rs ν2 σ Γ H2 := Rs.extd r1 e2 st2
  have rw2 := Rs.wipe r2 vs
  obtain ⟨t1, t2⟩ := it i H2 _ _ hGP rw2
  by_cases hlt : i < ds.length
  · obtain ⟨g1, g2⟩ := t1 hlt
    refine .inr ⟨g1, fun H' => i + 1 ≤ ds.length ∧ Ext W.c H1 H' ∧ ∃ ν, StOk W.c ν H' ∧ ∃ us acc, H' D = some (.lst us) ∧ ImA W.X.K H' us acc ∧ acc.length ≤ i + 1 ∧ IV (i + 1) ν acc, fun H' q => ⟨ds.length - (i + 1), by omega, rfl, q⟩, fun x H3 hy => ?_⟩
    obtain ⟨ex, st, d, hd, hx⟩ := g2 x H3 hy
    have r3 := Rs.extd rw2 ex st
    obtain ⟨Γ2, hsd, hb⟩ := hstep i ν2 d acc hd iv hla
    refine (T gh).go _ _ H3 x d Γ2 _ r3 hx hsd fun σ' r4 hwp => ⟨?_, ?_⟩
    · rw [hwp vs hjs, wipe_wipe]
    · refine hb gh σ' H3 _ r4 fun b H4 r5 e5 hb2 => ?_
      have e4 : Ext W.c H2 H4 := ex.trans e5
      cases b with
      | false =>
        show _ ∧ _
        exact ⟨hlt, e2.trans e4, _, r5.st, us, acc, e4 D _ hus nmt, ima.kp (e4.kp st2), by omega, hb2.2 rfl⟩
      | true =>
        show te σ' H4 _
        refine hb2.1 rfl σ' H4 _ r5 fun y H5 z r6 e6 i6 f6 n6 ⟨d2, ez, iv2⟩ => ?_
        subst ez
        have e7 : Ext W.c H2 H5 := e4.trans e6
        have hD5 := e7 D _ hus nmt
        have im5 := ima.kp (e7.kp st2)
        refine ⟨us, hD5, ?_, hlt, ?_, _, r6.st.mut r6.st0 hD0 r6.ext, us ++ [y], acc ++ [d2], upd_same, (im5.app (.cons i6 .nil)).kp (.mutL hD5), ?_, iv2⟩
        · rw [ima.length]
          exact Nat.lt_of_le_of_lt (by omega : acc.length ≤ 1000) (by decide)
        · intro b u hb nm
          rw [upd_ne (ne_of_none hb hD)]
          exact (e2.trans e7) b u hb nm
        · rw [List.length_append]
          show acc.length + 1 ≤ i + 1
          omega
  · have e : i = ds.length := by omega
    subst e
    refine .inl ⟨t2 (Nat.le_refl _), ?_⟩
    refine K (.ref D) H2 (.f D acc) r2.pop (e1.trans e2) ⟨rfl, us, hus, ima⟩ ⟨fun a q => by cases q; exact ⟨Rs.notin r1.pop hD, hD0⟩, fun _ q => nomatch q⟩ (fun a q => ?_) (hend ν2 acc iv hla D)
    cases q
    exact e1.fresh r1.pop.st hD
/-- [elt for x in ..], with draws -/
theorem qc1W (j : Nat) (ok : W.Ok) (h : QI W ν Γ (.Name nm p1) iter fun ν1 GP ds => GP (Γ.set j none) ∧ ds.length ≤ 1000 ∧ ∃ IV : Nat → Nat → List D → Prop, IV 0 ν1 [] ∧
      (∀ i ν d acc, ds[i]? = some d → IV i ν acc → acc.length ≤ i → ∀ gh s H C cl fp, QE ((W.push gh).blk s H scope C cl fp) ν (Γ.set j (some (.d d))) elt fun ν2 z => ∃ y, z = .d y ∧ IV (i + 1) ν2 (acc ++ [y])) ∧ ∀ ν acc, IV ds.length ν acc → ∀ p, k ν (.f p acc))
    (hb : blkC W.X.N W.X.env.scope scope [(nm, j)] = true := by first | rfl | kernel_rfl) (hj : W.X.N[j]? = some nm := by rfl)
    (hg : ∀ (s : Shared) (H : Hp) (C : Addr) (cl : List (Str × Addr)) (fp : List Addr), PG (W.X.blk s H scope (compEnvC scope cl C W.X.env) fp) (.Name nm p1) (gName j)) : QC W ν Γ elt (.Name nm p1) iter [] scope k := by
  obtain ⟨wi, hi, hw⟩ := h
  refine ⟨[(nm, j)], wi, gName j, tYes, fun σ H Q => ∀ s0 Hs C cl fp, wpE (W.X.blk s0 Hs scope (compEnvC scope cl C W.X.env) fp) elt σ H Q, hi, blkOk_by hb, hg, fun s H C cl fp => pts_nil, fun s H C cl fp => ⟨fun pins s' σ H' Q I h => (h s H C cl fp).run pins s' I⟩, ?_⟩
  refine lc_go (js := [j]) (sd := sd1 j) (fun gh => tg1 j) (by simp) fun σ H Rr r K => hw σ H Rr r fun J H1 GP ds gh r1 e1 it ⟨hG, hl, IV, h0, hel, hend⟩ => K J H1 GP ds gh r1 e1 it ?_
  refine ⟨hG, hl, IV, h0, fun i ν d acc hd iv hla => ⟨_, rfl, fun gh => ?_⟩, fun ν acc iv _ p => hend ν acc iv p⟩
  intro σ H Q r K
  refine K true H r .refl ⟨fun _ => ?_, fun q => nomatch q⟩
  intro σ H Q r K s0 Hs C cl fp
  have e : (wipeG Γ ([(nm, j)].map (·.2))).set j (some (Sl.d d)) = Γ.set j (some (.d d)) := List.set_set ..
  rw [e] at r K
  exact hel i ν d acc hd iv hla gh s0 Hs C cl fp σ H Q r fun v H' z r' e' i' f' n' q => K v H' z r' e' i' ⟨f'.fr, f'.ad⟩ n' q
/-- [elt for x in ..], each item's value as F says -/
theorem qc1 (j : Nat) (F : D → D → Prop) (ok : W.Ok) (h : QI W ν Γ (.Name nm p1) iter fun ν1 GP ds => GP (Γ.set j none) ∧ ds.length ≤ 1000 ∧
      (∀ (i : Nat) (d : D), ds[i]? = some d → ∀ gh s H C cl fp, QE ((W.push gh).blk s H scope C cl fp) ν1 (Γ.set j (some (.d d))) elt fun ν2 z => ν2 = ν1 ∧ ∃ y, z = .d y ∧ F d y) ∧ ∀ acc, Paired F ds acc → ∀ p, k ν1 (.f p acc))
    (hb : blkC W.X.N W.X.env.scope scope [(nm, j)] = true := by first | rfl | kernel_rfl) (hj : W.X.N[j]? = some nm := by rfl)
    (hg : ∀ (s : Shared) (H : Hp) (C : Addr) (cl : List (Str × Addr)) (fp : List Addr), PG (W.X.blk s H scope (compEnvC scope cl C W.X.env) fp) (.Name nm p1) (gName j)) : QC W ν Γ elt (.Name nm p1) iter [] scope k := by
  refine qc1W j ok ?_ hb hj hg
  obtain ⟨wi, hi, hw⟩ := h
  refine ⟨wi, hi, fun σ H Rr r K => hw σ H Rr r fun {ν1} J H1 GP ds gh a b c ⟨hG, hl, h1, h2⟩ => K J H1 GP ds gh a b c ⟨hG, hl, fun i ν acc => ν = ν1 ∧ Paired F (ds.take i) acc, ⟨rfl, .nil⟩, ?_, ?_⟩⟩
  · rintro i ν d acc hd ⟨rfl, iv⟩ hla gh s H C cl fp
    refine (h1 i d hd gh s H C cl fp).mono ?_
    rintro ν2 z ⟨rfl, y, rfl, hF⟩
    refine ⟨y, rfl, rfl, ?_⟩
    rw [List.take_add_one, hd]
    exact Paired.snoc iv hF
  · rintro ν acc ⟨rfl, iv⟩
    rw [List.take_length] at iv
    exact h2 acc iv
/-- [elt for x in .. if c] -/
theorem qc1t (j : Nat) (t : D → Bool) (f : D → D) (ok : W.Ok) (h : QI W ν Γ (.Name nm p1) iter fun ν1 GP ds => GP (Γ.set j none) ∧ ds.length ≤ 1000 ∧
      (∀ (i : Nat) (d : D), ds[i]? = some d → (∀ gh s H C cl fp, QT ((W.push gh).blk s H scope C cl fp) ν1 (Γ.set j (some (.d d))) c fun ν2 b => ν2 = ν1 ∧ b = t d) ∧ (t d = true → ∀ gh s H C cl fp, QE ((W.push gh).blk s H scope C cl fp) ν1 (Γ.set j (some (.d d))) elt fun ν2 z => ν2 = ν1 ∧ z = .d (f d))) ∧ ∀ p, k ν1 (.f p ((ds.filter t).map f)))
    (hb : blkC W.X.N W.X.env.scope scope [(nm, j)] = true := by first | rfl | kernel_rfl) (hj : W.X.N[j]? = some nm := by rfl)
    (hg : ∀ (s : Shared) (H : Hp) (C : Addr) (cl : List (Str × Addr)) (fp : List Addr), PG (W.X.blk s H scope (compEnvC scope cl C W.X.env) fp) (.Name nm p1) (gName j)) : QC W ν Γ elt (.Name nm p1) iter [c] scope k := by
  obtain ⟨wi, hi, hw⟩ := h
  refine ⟨[(nm, j)], wi, gName j, fun σ H Q => ∀ s0 Hs C cl fp, wpT (W.X.blk s0 Hs scope (compEnvC scope cl C W.X.env) fp) c σ H Q, fun σ H Q => ∀ s0 Hs C cl fp, wpE (W.X.blk s0 Hs scope (compEnvC scope cl C W.X.env) fp) elt σ H Q, hi, blkOk_by hb, hg,
    fun s H C cl fp => pts_one ⟨fun pins s' σ H' Q I h => (h s H C cl fp).run pins s' I⟩, fun s H C cl fp => ⟨fun pins s' σ H' Q I h => (h s H C cl fp).run pins s' I⟩, ?_⟩
  refine lc_go (js := [j]) (sd := sd1 j) (fun gh => tg1 j) (by simp) fun σ H Rr r K => hw σ H Rr r fun {ν1} J H1 GP ds gh r1 e1 it ⟨hG, hl, hel, hend⟩ => K J H1 GP ds gh r1 e1 it ?_
  refine ⟨hG, hl, fun i ν acc => ν = ν1 ∧ acc = ((ds.take i).filter t).map f, ⟨rfl, rfl⟩, fun i ν d acc hd iv hla => ⟨_, rfl, fun gh => ?_⟩, fun ν acc iv _ p => ?_⟩
  · obtain ⟨rfl, iv⟩ := iv
    have e : (wipeG Γ ([(nm, j)].map (·.2))).set j (some (Sl.d d)) = Γ.set j (some (.d d)) := List.set_set ..
    rw [e]
    intro σ H Q r K s0 Hs C cl fp
    refine (hel i d hd).1 gh s0 Hs C cl fp σ H Q r fun b H' r' e' ⟨en, hb⟩ => K b H' r' e' ⟨fun hb2 => ?_, fun hb2 => ?_⟩
    · subst en
      intro σ H Q r K s0 Hs C cl fp
      refine (hel i d hd).2 (by rw [← hb]; exact hb2) gh s0 Hs C cl fp σ H Q r fun v H' z r' e' i' f' n' ⟨en2, ez⟩ => K v H' z r' e' i' ⟨f'.fr, f'.ad⟩ n' ⟨f d, ez, en2, ?_⟩
      show acc ++ [f d] = ((ds.take (i + 1)).filter t).map f
      rw [List.take_add_one, hd, List.filter_append, List.map_append, ← (show acc = ((ds.take i).filter t).map f from iv)]
      have : t d = true := by rw [← hb]; exact hb2
      show _ = _ ++ List.map f (List.filter t [d])
      rw [List.filter_cons, if_pos this]
      rfl
    · refine ⟨en, ?_⟩
      show acc = ((ds.take (i + 1)).filter t).map f
      rw [List.take_add_one, hd, List.filter_append, List.map_append, ← (show acc = ((ds.take i).filter t).map f from iv)]
      have : ¬ t d = true := by rw [← hb, hb2]; exact Bool.false_ne_true
      show _ = _ ++ List.map f (List.filter t [d])
      rw [List.filter_cons, if_neg this]
      simp
  · obtain ⟨rfl, iv⟩ := iv
    have iv2 : acc = ((ds.take ds.length).filter t).map f := iv
    rw [List.take_length] at iv2
    rw [iv2]
    exact hend p
/-- [elt for a, b in ..] -/
theorem qcN (is : List Nat) {own : List (Str × Nat)} {ts : List Expr} {k1 : Nat} (F : D → D → Prop) (ok : W.Ok) (hown : own.map (·.2) = is) (h : QI W ν Γ (.Tuple ts k1 p1) iter fun ν1 GP ds => GP (wipeG Γ is) ∧ ds.length ≤ 1000 ∧
      (∀ (i : Nat) (d : D), ds[i]? = some d → ∃ xs, d = .tuple xs ∧ is.length = xs.length ∧ ∀ gh s H C cl fp, QE ((W.push gh).blk s H scope C cl fp) ν1 (setG (wipeG Γ is) is xs) elt fun ν2 z => ν2 = ν1 ∧ ∃ y, z = .d y ∧ F d y) ∧ ∀ acc, Paired F ds acc → ∀ p, k ν1 (.f p acc))
    (hb : blkC W.X.N W.X.env.scope scope own = true := by first | rfl | kernel_rfl)
    (hg : ∀ (s : Shared) (H : Hp) (C : Addr) (cl : List (Str × Addr)) (fp : List Addr), PGs (W.X.blk s H scope (compEnvC scope cl C W.X.env) fp) ts (gNs is))
    (hn : ∀ (s : Shared) (H : Hp) (C : Addr) (cl : List (Str × Addr)) (fp : List Addr), (assignEach ts (compEnvC scope cl C W.X.env)).length = is.length := by intros; rfl) (hst : ∀ (s : Shared) (H : Hp) (C : Addr) (cl : List (Str × Addr)) (fp : List Addr), (assignEach ts (compEnvC scope cl C W.X.env)).findIdx? (·.1) = none := by intros; rfl) : QC W ν Γ elt (.Tuple ts k1 p1) iter [] scope k := by
  obtain ⟨wi, hi, hw⟩ := h
  refine ⟨own, wi, gTup W.X.K is.length (gNs is), tYes, fun σ H Q => ∀ s0 Hs C cl fp, wpE (W.X.blk s0 Hs scope (compEnvC scope cl C W.X.env) fp) elt σ H Q, hi, blkOk_by hb, fun s H C cl fp => pg_tup (X := W.X.blk s H scope (compEnvC scope cl C W.X.env) fp) ok.calm (hg s H C cl fp) (hn s H C cl fp) (hst s H C cl fp), fun s H C cl fp => pts_nil, fun s H C cl fp => ⟨fun pins s' σ H' Q I h => (h s H C cl fp).run pins s' I⟩, ?_⟩
  rw [hown]
  refine lc_go (js := is) (sd := sdN is) (fun gh => tgN is) (fun j h => h) fun σ H Rr r K => hw σ H Rr r fun {ν1} J H1 GP ds gh r1 e1 it ⟨hG, hl, hel, hend⟩ => K J H1 GP ds gh r1 e1 it ?_
  refine ⟨hG, hl, fun i ν acc => ν = ν1 ∧ Paired F (ds.take i) acc, ⟨rfl, .nil⟩, fun i ν d acc hd iv hla => ?_, fun ν acc iv _ p => ?_⟩
  · obtain ⟨rfl, iv⟩ := iv
    obtain ⟨xs, ed, hlx, hq⟩ := hel i d hd
    refine ⟨_, ⟨xs, ed, hlx, rfl⟩, fun gh => ?_⟩
    intro σ H Q r K
    refine K true H r .refl ⟨fun _ => ?_, fun q => nomatch q⟩
    intro σ H Q r K s0 Hs C cl fp
    refine hq gh s0 Hs C cl fp σ H Q r fun v H' z r' e' i' f' n' ⟨en, y, ez, hF⟩ => K v H' z r' e' i' ⟨f'.fr, f'.ad⟩ n' ⟨y, ez, en, ?_⟩
    show Paired F (ds.take (i + 1)) (acc ++ [y])
    rw [List.take_add_one, hd]
    exact Paired.snoc iv hF
  · obtain ⟨rfl, iv⟩ := iv
    have iv2 : Paired F (ds.take ds.length) acc := iv
    rw [List.take_length] at iv2
    exact hend acc iv2 p
end
/-! ### a def's body -/
def startG (n : Nat) (as : List Sl) : Ga := as.map some ++ List.replicate (n - as.length) none
theorem start_rs {K : PySem.W.Frag} {c : Cq} {H : Hp} {N : List Str} {vs : List V} {as : List Sl} {ν : Nat} (st : StOk c ν H) (h : Paired (fun v z => Is K c H H v z ∧ isArg z = true) vs as) : Rs K c H [] ν (L2.start N vs) (startG N.length as) H := by
  have hl : vs.length = as.length := (paired_get2 h).1
  have noadr : ∀ a, a ∉ adrs (startG N.length as) := by
    intro a m
    unfold adrs startG at m
    rw [List.mem_filterMap] at m
    obtain ⟨y, hy, e⟩ := m
    rcases List.mem_append.mp hy with hy | hy
    · obtain ⟨z, hz, rfl⟩ := List.mem_map.mp hy
      obtain ⟨i, hi, e2⟩ := List.mem_iff_getElem.mp hz
      obtain ⟨x, _, q⟩ := pget h (i := i) (y := z) (by rw [List.getElem?_eq_getElem hi, e2])
      have := q.2
      cases z with
      | o b xs => cases this
      | ok b xs => cases this
      | _ => cases e
    · rw [List.mem_replicate] at hy
      rw [hy.2] at e
      cases e
  refine ⟨.refl, ⟨ν, st⟩, st, ?_, ?_, fun a m => absurd m (noadr a), fun q hq => nomatch hq⟩
  · unfold L2.start startG
    rw [hl]
    have key : ∀ {vs : List V} {as : List Sl} (n : Nat), Paired (fun v z => Is K c H H v z ∧ isArg z = true) vs as → Paired (IsO K c H H) (vs.map some ++ List.replicate n none) (as.map some ++ List.replicate n none) := by
      intro vs as n h
      induction h with
      | nil =>
        induction n with
        | zero => exact .nil
        | succ n ih => exact .cons trivial ih
      | @cons v z vs as q _ ih =>
        refine .cons ⟨q.1, ?_⟩ ih
        have := q.2
        cases z with
        | f b xs => cases this
        | fk b xs => cases this
        | _ => rfl
    exact key _ h
  · exact List.nodup_iff_pairwise_ne.mpr (by
      have e : adrs (startG N.length as) = [] := List.eq_nil_iff_forall_not_mem.mpr noadr
      rw [e]
      exact .nil)
/-- THE RULE: a def of the text by its body over data -/
theorem fn_g {P : Program} {w : World} {K : PySem.W.Frag} {mg : Str → Option Value} {base : Heap} {C : Addr} {x qual : Str} {params : Arguments} {body : List Stmt} {scope : Scope} {f : Addr} {fd : FuncData} {N ps : List Str} {lev : Nat} {spec : Spc} (F : FunD K x qual params body scope [] [] f fd) (S : FnScope N ps scope)
    (hm : mg x = some (.ref f)) (hb : Binds K fd ps []) (len : ∀ ν as k, spec ν as k → as.length = ps.length)
    (hbody : ∀ (cdv : Value) (A : Around) (outer : List Env) (s : Shared) (H : Hp) (E : XK) (st : Option SA), Room lev (A.deeper (envOfC qual scope s.heap.objs.size f cdv)) →
      ∀ W : Wx, W = ⟨(cxOf CX0 P w K mg base N qual scope f cdv A outer s H E).nox, ⟨C, st⟩, H, []⟩ → W.Ok → ∀ ν as k, spec ν as k → RR W ν body (startG N.length as) { nx := fun ν' _ => k ν' (.d .none), rt := k }) : FnG P w K mg base C (lev + 1) x ps spec := by
  refine ⟨f, fd, ?_, hm, F.kp, hb⟩
  refine F.ok S (fun vs H Q E h => ?_) (fun cdv A outer s H vs Q E hr h => ?_)
  · obtain ⟨ν, st, as, k, _, h1, h2, _⟩ := h
    rw [(paired_get2 h1).1]
    exact len ν as k h2
  · obtain ⟨ν, st, as, k, hst, h1, h2, h3⟩ := h
    have ok : (⟨(cxOf CX0 P w K mg base N qual scope f cdv A outer s H E).nox, ⟨C, st⟩, H, []⟩ : Wx).Ok := ⟨S.nd, rfl, hr.units, PassesOwn.never⟩
    have R := hbody cdv A outer s H E st hr _ rfl ok ν as k h2
    refine ⟨wpSs (cxOf CX0 P w K mg base N qual scope f cdv A outer s H E).nox body, PSs.nox pss_wp, ?_⟩
    refine R (L2.start N vs) H _ (start_rs hst h1) ⟨fun σ' H' Γ' r' q => ?_, fun v H' z e s' i ret fr q => ?_, fun _ _ _ _ q => q, fun _ _ _ _ q => q⟩
    · exact h3 .non H' (.d .none) r'.ext r'.st .non rfl (fun a ha => nomatch ha) q
    · exact h3 v H' z e s' i ret fr q
end QL

/-! Q8: rules the kit lacks: t[::-1], t * 1, enumerate(t). -/
namespace QK
open PySem PySem.Spec PyProof.Rows HT L2
section
variable {prog : Program} {w : World} {A : Around} {E : Value → Shared → Prop} {s : Shared}
theorem adjust_rev (n : Nat) : Builtin.Slice.sliceAdjust none none (-1) (n : Int) = ((n : Int) - 1, -1) := by
  unfold Builtin.Slice.sliceAdjust
  rfl
theorem places_rev (n : Nat) : Builtin.Slice.slicePlaces ((n : Int) - 1) (-1) (-1) = n := by
  unfold Builtin.Slice.slicePlaces
  have h1 : ¬ (-1 : Int) > 0 := by omega
  simp only [h1, if_false]
  split <;> simp <;> omega
theorem sliceApplied_rev {sl : Addr} {vs : Value} {n : Nat} {Q : Int × Int × Nat → Shared → Prop} (hs : s.heap.IsSliceOf sl .none .none vs) (ps : IsPart vs (some (-1)))
    (h : Q ((n : Int) - 1, -1, n) s) : wpAny (model prog w) A (Builtin.Slice.sliceApplied (.ref sl) (pure (n : Int))) Q E s := by
  obtain ⟨os, hos, hcs, hds⟩ := id hs
  unfold Builtin.Slice.sliceApplied Builtin.Slice.sliceFields
  refine wpAny_bind (wpAny_bind (wpAny_field hos hds (x := .none) rfl (wpAny_bind (wpAny_field hos hds (x := .none) rfl (wpAny_bind (wpAny_field hos hds (x := vs) rfl (wpAny_pure ?_)))))))
  refine wpAny_bind (slicePart_ ps ?_)
  show wpAny _ _ (if ((-1 : Int) == 0) = true then _ else _) _ _ s
  rw [if_neg (by decide)]
  refine wpAny_bind (slicePart_none (wpAny_bind (slicePart_none (wpAny_bind (wpAny_pure ?_)))))
  show wpAny _ _ (match Builtin.Slice.sliceAdjust none none (-1) (n : Int) with | (lo, hi) => pure (lo, (-1 : Int), Builtin.Slice.slicePlaces lo hi (-1))) _ _ s
  rw [adjust_rev n]
  show wpAny _ _ (pure ((n : Int) - 1, (-1 : Int), Builtin.Slice.slicePlaces ((n : Int) - 1) (-1) (-1))) _ _ s
  rw [places_rev]
  exact wpAny_pure h
theorem fm_congr {α β : Type} {f g : α → Option β} : ∀ {l : List α}, (∀ m, m ∈ l → f m = g m) → l.filterMap f = l.filterMap g
  | [], _ => rfl
  | a :: l, h => by
    rw [List.filterMap_cons, List.filterMap_cons, h a List.mem_cons_self, fm_congr fun m hm => h m (List.mem_cons_of_mem _ hm)]
theorem pick_rev (xs : Array Value) : ((List.range xs.size).filterMap fun (m : Nat) => xs[((xs.size : Int) - 1 + (m : Int) * (-1)).toNat]?).toArray = xs.toList.reverse.toArray := by
  rw [← PySem.W.krv_pick xs]
  unfold slicePick
  rw [PySem.W.krv_bounds]
  show _ = ((sliceRange ((xs.size : Int) - 1) (-1) (-1)).filterMap (xs[·]?)).toArray
  rw [PySem.W.krv_sliceRange, List.filterMap_map]
  congr 1
  apply fm_congr
  intro m hm
  have := List.mem_range.mp hm
  have e : ((xs.size : Int) - 1 + (m : Int) * (-1)).toNat = xs.size - 1 - m := by omega
  rw [e]
  rfl
theorem getItem_tuple_rev {t sl : Addr} {items : Array Value} {vs : Value} {Q : Value → Shared → Prop} (ht : IsTup s.heap t items) (hs : s.heap.IsSliceOf sl .none .none vs) (ps : IsPart vs (some (-1)))
    (h : Q (.ref s.heap.objs.size) { s with heap := s.heap.push { cls := .type "tuple", data := .seq items.toList.reverse.toArray } })
    (hsz : items.size ≤ sizeLine) : wpAny (model prog w) A (getItem (.ref t) (.ref sl)) Q E s := by
  have htake : sizeOk (.seq items.toList.reverse.toArray) := by
    show items.toList.reverse.toArray.size ≤ sizeLine
    rw [List.size_toArray, List.length_reverse, Array.length_toList]
    exact hsz
  obtain ⟨os, hos, hcs, hds⟩ := id hs
  have hTs : s.TypeIs (.ref sl) "slice" := ⟨os, hos, hcs⟩
  unfold getItem
  try with_reducible refine wpAny_holding ?_
  first | refine wpAny_bind (wpAny_pure ?_) | skip
  refine wpAny_bind (wpAny_sequenceKey ht.typeIs (by decide) ?_)
  refine wpAny_bind (wpAny_callSpecial?_slot (name := Str.ofString "__getitem__") ht.typeIs PyProof.Rows.slot_tuple_getitem
    (wpAny_call_entry PyProof.Rows.slot_tuple_getitem ht.typeIs entry_tuple_getitem ?_ (args_tuple_getitem _ _)))
  show wpAny _ _ (Builtin.Tuple.tupleItemsOf (.ref t) >>= _) _ _ s
  refine wpAny_bind (tupleItemsOf_ ht ?_)
  refine wpAny_bind (wpAny_typeOf hTs ?_)
  rw [if_pos (by decide)]
  refine wpAny_bind (sliceApplied_rev hs ps ?_)
  have hno : ¬ ((((items.size : Int) - 1) == 0 && (-1 : Int) == 1 && items.size == items.size) = true) := by
    intro q
    rw [Bool.and_eq_true, Bool.and_eq_true] at q
    exact absurd q.1.2 (by decide)
  show wpAny _ _ (if ((((items.size : Int) - 1) == 0 && (-1 : Int) == 1 && items.size == items.size) = true) then _ else _) _ _ s
  rw [if_neg hno, pick_rev]
  first
    | exact wpAny_bind (m := Builtin.Tuple.tupleExact _) (wpAny_newObj_type (wpAny_pure ⟨_, rfl, wpAny_pure h⟩) htake)
    | exact wpAny_bind (m := Builtin.Tuple.tupleExact _) (wpAny_newObj_type (wpAny_bind (wpAny_pure (wpAny_pure ⟨_, rfl, wpAny_pure h⟩))) htake)
    | exact wpAny_bind (wpAny_bind (m := Builtin.Tuple.tupleExact _) (wpAny_newObj_type (wpAny_pure (wpAny_pure ⟨_, rfl, wpAny_pure h⟩)) htake))
    | exact wpAny_bind (wpAny_bind (m := Builtin.Tuple.tupleExact _) (wpAny_newObj_type (wpAny_pure ⟨_, rfl, wpAny_pure h⟩) htake))
/-- t * 1 -/
theorem tuple_mul1 (l : Addr) (items : Array Value) (n : Nat) (dd : Option Addr) (sl : Array (Option Value)) (u : Tok) :
    Meets (Builtin.«tuple.__mul__» ⟨[.ref l, .int 1 u], []⟩) (fun _ R s => s.heap.get? l = some { cls := .type "tuple", dict := dd, data := .seq items n, slots := sl } ∧
      R (.ok (.ret (Value.ref l))) s) :=
  .of_wp fun prog w A R s h => by
    obtain ⟨hp, g, d, tk, os⟩ := s
    obtain ⟨hl, h⟩ := h
    have f1 := AutoSeq1.idx_int
    have c1 : (items.isEmpty || (1 : Int) == 1) = true := by cases items.isEmpty <;> rfl
    wp_walk using wpAny_loadPart' hl
    repeat (first
      | (refine wpAny_ite_false (by decide) ?_; wp_walk using wpAny_loadPart' hl)
      | (refine wpAny_ite_true c1 ?_; wp_walk using wpAny_loadPart' hl))
    all_goals exact ⟨_, rfl, h⟩
end
/-! ### t[::-1] -/
def tRevT (K : PySem.W.Frag) (te : TE) : TE := fun σ H Q => te σ H fun x H1 => ∃ a xs, x = .ref a ∧ SqT K H1 a xs ∧ ∀ p, H1 p = none → Q (.ref p) (upd H1 p (.tup xs.reverse))
theorem pe_revT {X : Cx} {e : Expr} {te : TE} {k : Nat} {p1 p2 p3 pos : Pos} (he : PE X e te) : PE X (.Subscript e (.Slice none none (some (.UnaryOp .USub (.Constant (.int 1) k p1) p2)) p3) pos) (tRevT X.K te) := by
  refine ⟨fun pins s σ H Q I h => ?_⟩
  refine Subscript_ (thn (he.run pins s σ H _ I h) fun v s1 ⟨x, H1, I1, r1, q1⟩ => ?_)
  obtain ⟨a, xs, ex, hx, q⟩ := q1
  subst ex
  cases r1
  have hst : PO X (some (.UnaryOp .USub (.Constant (.int 1) k p1) p2)) (tPart (tUn (rU fun i => .int (-i)) (tC (.int 1)))) := po_some (pe_un un_neg pe_int)
  refine wpAny_Slice (thn (po_none.run pins s1 σ H1 (fun o H2 => o = none ∧ H2 = H1) I1 ⟨rfl, rfl⟩) fun vl s2 ⟨l, H2, I2, pl, el, e2⟩ => ?_)
  subst el e2
  refine thn (po_none.run pins s2 σ H2 (fun o H3 => o = none ∧ H3 = H2) I2 ⟨rfl, rfl⟩) fun vu s3 ⟨u, H3, I3, pu, eu, e3⟩ => ?_
  subst eu e3
  refine thn (hst.run pins s3 σ H3 (fun o H4 => o = some (-1) ∧ H4 = H3) I3 ⟨1, rfl, -1, rfl, rfl, rfl⟩) fun vs s4 ⟨o, H4, I4, ps, eo, e4⟩ => ?_
  subst eo e4
  have I5 : Inv X pins σ H4 { s4 with heap := s4.heap.push { cls := .type "slice", data := .fields #[vl, vu, vs] } } := I4.kept (t' := s4.toks) fun b ob q => Heap.get?_push_of_some _ q
  obtain ⟨its, r, ht, hz⟩ := I5.tuple hx
  have hlen := r.length
  cases pl
  cases pu
  show wpAny (model X.prog X.w) X.A (subscriptTail e (.Slice none none (some (.UnaryOp .USub (.Constant (.int 1) k p1) p2)) p3) (.ref a) (.ref s4.heap.objs.size)) (EP X pins σ Q) X.xe { s4 with heap := s4.heap.push { cls := .type "slice", data := .fields #[.none, .none, vs] } }
  refine tail_any (ops := [.ref a, .ref s4.heap.objs.size]) ht.typeIs (PyProof.Rows.slot_tuple_getitem.lookup) ?_ (by with_unfolding_all rfl)
  refine getItem_tuple_rev ht (Heap.IsSliceOf.new _ .none .none vs) ps ?_ (by rw [List.size_toArray]; omega)
  refine ⟨.ref _, _, I5.laid (t' := s4.toks) (o := .tup xs.reverse) (fun b ob q => Heap.get?_push_of_some _ q) (Nat.le_refl _) ?_, rfl, q _ (I5.hok.fresh (Nat.le_refl _))⟩
  exact ⟨by rw [List.length_reverse]; exact hz, _, r.reverse, IsTup.new _ _⟩
/-! ### t * 1 -/
def rRep1 (K : PySem.W.Frag) : R2 := fun x y H Q => ∃ l xs, x = .ref l ∧ y = .int 1 ∧ SqT K H l xs ∧ Q (.ref l) H
section
variable {X : Cx}
theorem op_rep1 : OpR X (binaryOp .Mult) (rRep1 X.K) := by
  intro pins s σ H x y v u Q I rx ry h
  obtain ⟨l, xs, rfl, rfl, hT, q⟩ := h
  cases rx
  obtain ⟨t, rfl⟩ := ry
  obtain ⟨its, r, ⟨⟨cls, dd, data, sl⟩, ho, hc, n, hd⟩, hs⟩ := I.tuple hT
  simp only at hc hd
  subst hc hd
  exact wpAny_binaryOp_repeat_ref (T := "tuple") (U := "int") (by decide) ⟨_, ho, rfl⟩ (fun s' => typeIs_int s' 1 t) noFill_tuple_mul F.fills_int_mul F.slot_int_rmul repeat_tuple F.slot_int_index.lookup
    (call_meets F.slot_int_rmul (typeIs_int s 1 t) F.entry_int_rmul (F.args_int_rmul_2 _ _) (int_rmul_tuple 1 t l its.toArray n dd sl)
      ⟨ho, rfl, ⟨_, ho, rfl⟩, call_meets F.slot_tuple_mul ⟨_, ho, rfl⟩ F.entry_tuple_mul (F.args_tuple_mul_2 _ _) (tuple_mul1 l its.toArray n dd sl t) ⟨ho, ⟨.ref l, H, I, rfl, q⟩⟩⟩)
end
end QK

/-! Q9: enumerate(t), t a tuple. -/
namespace QK
open PySem PySem.Spec PyProof.Rows HT L2
theorem meets_enumerate_newT (l : Addr) (items : Array Value) :
    Meets (Builtin.«enumerate.__new__» ⟨[.type "enumerate", .ref l], []⟩) (fun _ R s => s.heap.IsTuple l items ∧
      R (.ok (.ret (.ref (s.heap.push { cls := .type "tuple_iterator", data := .fields #[.ref l, .int 0 0] }).objs.size)))
        { s with heap := (s.heap.push { cls := .type "tuple_iterator", data := .fields #[.ref l, .int 0 0] }).push { cls := .type "enumerate", data := .fields #[.none, .bool false, .ref s.heap.objs.size, rawInt 0, .none, .none] } }) :=
  .of_wp fun prog w A R s h => by
    obtain ⟨hp, g, d, tk, os⟩ := s; obtain ⟨hL, h⟩ := h
    have hsub := sub_enumerate
    have hL : Heap.IsTuple (Shared.heap ⟨hp, g, d, tk, os⟩) l items := hL
    wp_walk using wpAny_pyIter_tuple hL
    refine wpAny_stack_any fun st => wpAny_pure ?_
    split
    · rename_i c _ _ _ _ _
      cases (c == Value.type "enumerate")
      · wp_walk using wpAny_pyIter_tuple hL
        exact ⟨_, rfl, h⟩
      · wp_walk using wpAny_pyIter_tuple hL
        exact ⟨_, rfl, h⟩
    · wp_walk using wpAny_pyIter_tuple hL
      exact ⟨_, rfl, h⟩
section
variable {prog : Program} {w : World} {A : Around} {E : Value → Shared → Prop} {s : Shared}
theorem call_enumerate_tup {l : Addr} {items : Array Value} {Q : Value → Shared → Prop} (hL : s.heap.IsTuple l items)
    (h : ∀ h', IsEnum h' (s.heap.objs.size + 1) s.heap.objs.size 0 .none → h'.IsTupleIter s.heap.objs.size l 0 → h'.objs.size = s.heap.objs.size + 2 →
      (∀ b o, s.heap.get? b = some o → h'.get? b = some o) → Q (.ref (s.heap.objs.size + 1)) { s with heap := h' }) :
    wpAny (model prog w) A (call (.type "enumerate") [.ref l]) Q E s := by
  refine callType_new F.called_enumerate (by decide) (F.typeCall_enumerate_1 _) (F.newCall_enumerate_1 _) (fun obj => F.args_object_init_2 obj _) F.entry_enumerate_new
    (meets_enumerate_newT l items) ⟨hL, ?_⟩
  have hz : (s.heap.push { cls := .type "tuple_iterator", data := .fields #[.ref l, .int 0 0] }).objs.size = s.heap.objs.size + 1 := Heap.size_push ..
  show _ ∧ _
  rw [hz]
  have he : IsEnum ((s.heap.push { cls := .type "tuple_iterator", data := .fields #[.ref l, .int 0 0] }).push
      { cls := .type "enumerate", data := .fields #[.none, .bool false, .ref s.heap.objs.size, rawInt 0, .none, .none] }) (s.heap.objs.size + 1) s.heap.objs.size 0 .none := by
    have := Heap.get?_push_size (s.heap.push { cls := .type "tuple_iterator", data := .fields #[.ref l, .int 0 0] })
      (o := { cls := .type "enumerate", data := .fields #[.none, .bool false, .ref s.heap.objs.size, rawInt 0, .none, .none] }) rfl
    rw [hz] at this; exact this
  refine ⟨⟨_, he, rfl⟩, h _ he ⟨_, Heap.get?_push_of_some _ (Heap.get?_push_size _ rfl), rfl, rfl⟩ (by rw [Heap.size_push, hz]) fun b o x => Heap.get?_push_of_some _ (Heap.get?_push_of_some _ x)⟩
end
theorem Draws.tupEnd {prog : Program} {w : World} {A : Around} (hh : A.handled = none) (it t : Addr) (items : Array Value) {i : Nat} (hx : items[i]? = none) :
    Draws prog w A it [it, t] i (fun _ _ => False) (fun j h => j = i ∧ h.IsTupleIter it t i ∧ h.IsTuple t items) where
  live := fun _ _ st => let ⟨o, ho, _⟩ := st.2.1; ⟨o, ho⟩
  frame := fun _ _ _ st hk => ⟨st.1, st.2.1.at fun o e => hk it (by simp) o e, st.2.2.at fun o e => hk t (by simp) o e⟩
  item := fun j s Q E hi st hQ => absurd st.1 (Nat.ne_of_lt hi)
  done := fun s Q E st hE => wpAny_nextOf_tuple_end hh st.2.1 st.2.2 hx hE
/-- the tuple at a as it stands at each turn, each item in a new pair -/
def IteT (K : PySem.W.Frag) (a : Addr) : It :=
  ⟨fun i H => ∃ (xs : List V) (x : V), SqT K H a xs ∧ xs[i]? = some x, fun i H v H' => ∃ T x, v = .ref T ∧ H T = none ∧ H' = upd H T (.tup [.int (i : Nat), x]) ∧ ∀ xs, SqT K H a xs → xs[i]? = some x, fun i H => ∃ xs : List V, SqT K H a xs ∧ xs.length ≤ i⟩
theorem turn_enumT {P : Program} {w : World} {K : PySem.W.Frag} {elts : List Expr} {kk : Nat} {tpos : Pos} (a e it : Addr) (hae : a ≠ it) (hae2 : a ≠ e) :
    Turn P w K (.Tuple elts kk tpos) (IteT K a) [e, it] e (fun i h => (∃ old, IsEnum h e it ((i : Nat) : Int) old) ∧ h.IsTupleIter it a i ∧ e ≠ it) where
  mem := by simp
  obj := fun i h st b hb => by
    obtain ⟨⟨old, he⟩, ⟨o, ho, hc, hd⟩, _⟩ := st
    have e' : b = e ∨ b = it := by simpa using hb
    rcases e' with z | z
    · rw [z]; exact ⟨_, he, fun v q => nomatch q⟩
    · rw [z]; exact ⟨o, ho, fun v q => by rw [hd] at q; cases q⟩
  keep := fun i h h' st k => let ⟨⟨old, he⟩, hi, hne⟩ := st; ⟨⟨old, k e (by simp) _ he⟩, hi.at fun o q => k it (by simp) o q, hne⟩
  item := by
    intro X hP hw hK hc i pins s σ H E I hf st hg
    subst hP hw hK
    obtain ⟨⟨old, he⟩, hit, hne⟩ := st
    obtain ⟨xs, x, hq, hx⟩ := hg
    obtain ⟨its, rv, p, hz⟩ := I.tuple hq
    obtain ⟨u, hu, ru⟩ := rv.get hx
    have hel : e < s.heap.objs.size := Heap.lt_size he
    have hil : it < s.heap.objs.size := by obtain ⟨_, q, _⟩ := hit; exact Heap.lt_size q
    have hlt : i < its.toArray.size := by
      rw [List.size_toArray]
      exact (List.getElem?_eq_some_iff.mp hu).1
    have D := Draws.tuple (prog := X.prog) (w := X.w) (A := X.A.in1) (I.ok.hd hc) it a hae its.toArray
    refine wpAny_pyNext_enum_itemD D he ⟨hit, p⟩ hlt hne (by simp; exact ⟨hne, fun q => hae2 q.symm⟩) fun x' h' tk hP ho hs' hT hsz hk => ?_
    obtain ⟨hit', _⟩ := hs'
    have hxu : x' = u := by
      have h1 : its.toArray[i]? = some x' := hP
      rw [List.getElem?_toArray, hu] at h1
      exact (Option.some.inj h1).symm
    subst hxu
    refine ⟨_, rfl, wpAny_letOwnedTupleGo_enum (s := { s with heap := h', toks := tk + 1 }) ho fun h'' he' sb => ?_⟩
    have hT2 : h''.get? s.heap.objs.size = some { cls := .type "tuple", data := .seq #[.int i tk, x'] } := (sb.2 _ (Nat.ne_of_gt hel)).trans hT
    have new : ObjOk X.prog X.w (upd H s.heap.objs.size (.tup [.int (i : Nat), x])) h'' s.heap.objs.size (.tup [.int (i : Nat), x]) :=
      ⟨by show 2 ≤ sizeLine; decide, [.int i tk, x'], .cons ⟨_, rfl⟩ (.cons ru .nil), ⟨_, hT2, rfl, _, rfl⟩⟩
    have I1 : Inv X pins σ (upd H s.heap.objs.size (.tup [.int (i : Nat), x])) { s with heap := h'', toks := tk + 1 } :=
      I.turnedNew (ch := [e, it]) (fun b ob hb q => (sb.2 b (fun z => hb (by simp [z]))).trans (hk b ob (fun z => hb (by simp [z])) (fun z => hb (by simp [z])) q)) hf (Nat.le_refl _) new
    refine ⟨.ref s.heap.objs.size, _, I1, rfl, ⟨_, x, rfl, I.hok.fresh (Nat.le_refl _), rfl, fun ys hy => by rw [I.tuple_inj hy hq]; exact hx⟩, ⟨⟨x', ?_⟩, hit'.at fun o q => (sb.2 it (Ne.symm hne)).trans q, hne⟩, fun b hb => ?_⟩
    · have e1 : ((i + 1 : Nat) : Int) = (i : Int) + 1 := by omega
      rw [e1]; exact he'
    · have hb' : b < s.heap.objs.size := by
        have e' : b = e ∨ b = it := by simpa using hb
        rcases e' with z | z
        · rw [z]; exact hel
        · rw [z]; exact hil
      rw [upd_ne (Nat.ne_of_lt hb')]
      exact (hf b hb).1
  done := by
    intro X hP hw hK hc i pins s σ H E I hf st hg
    subst hP hw hK
    obtain ⟨⟨old, he⟩, hit, hne⟩ := st
    obtain ⟨xs, hq, hx⟩ := hg
    obtain ⟨its, rv, p, hz⟩ := I.tuple hq
    obtain ⟨f0, f1, f2, f3, f4, f5⟩ := hf it (by simp)
    have hl := rv.length
    exact wpAny_pyNext_enum_endD (i := ((i : Nat) : Int)) (Draws.tupEnd (prog := X.prog) (w := X.w) (A := X.A.in1) (I.ok.hd hc) it a its.toArray (i := i) (by simp; omega)) he ⟨rfl, hit, p⟩ fun h' eb => ⟨rfl, I.turned (t' := s.toks) (fun b o hb q => eb b o hb q) f0 f1 f3 f4 f5⟩
  self := fun A i s Q E st h => let ⟨⟨_, he⟩, _⟩ := st; wpAny_pyIter_enum he h
def iEnumT (K : PySem.W.Frag) (te : TE) : TI := fun σ H R => te σ H fun v H1 => ∃ a xs, v = .ref a ∧ SqT K H1 a xs ∧ R (IteT K a) H1
theorem pi_enumT {X : Cx} {e : Expr} {te : TE} {p pos tpos : Pos} {elts : List Expr} {kk : Nat} (hg : Gl X "enumerate") (hm : X.mg "enumerate" = none) (he : PE X e te) (hs : starEach [e] X.env = (false, eval e X.env) :: starEach [] X.env := by rfl) :
    PI X (.Tuple elts kk tpos) (.Call (.Name "enumerate" p) [e] [] pos) (iEnumT X.K te) := by
  refine ⟨fun pins s σ H R I h => ?_⟩
  refine Call_ (ld_blt I hg hm boot_enumerate (PyProof.Rows.callWith_type1 (args_cons (thn (he.run pins s σ H _ I h) fun u s1 ⟨v, H1, I1, r1, q1⟩ => args_nil ?_) hs) hs rfl))
  obtain ⟨a, xs, ex, hq, q⟩ := q1
  subst ex
  obtain rfl : u = Value.ref a := r1
  obtain ⟨its, rv, p', hz⟩ := I1.tuple hq
  have hal : a < s1.heap.objs.size := by obtain ⟨_, q, _⟩ := p'; exact Heap.lt_size q
  refine call_enumerate_tup p' fun h' he hit hsz hk => wpAny_pyIter_enum he ?_
  have I2 : Inv X pins σ H1 { s1 with heap := h' } := I1.kept (t' := s1.toks) hk
  refine ⟨s1.heap.objs.size + 1, [s1.heap.objs.size + 1, s1.heap.objs.size], _, _, H1, rfl, I2, turn_enumT a (s1.heap.objs.size + 1) s1.heap.objs.size (Nat.ne_of_lt hal) (Nat.ne_of_lt (Nat.lt_succ_of_lt hal)), ⟨⟨.none, he⟩, hit, Nat.succ_ne_self _⟩, fun b hb => ?_, q⟩
  have e' : b = s1.heap.objs.size + 1 ∨ b = s1.heap.objs.size := by simpa using hb
  have hle : s1.heap.objs.size ≤ b := by
    rcases e' with z | z
    · rw [z]; exact Nat.le_add_right _ _
    · rw [z]; exact Nat.le_refl _
  exact I1.fpOk hle (I1.hok.fresh hle)
end QK

/-! Q10: t[::-1], t * n, enumerate(t); the draws' state. -/
namespace QL
open PySem PySem.Spec PyProof.Rows L2
/-! ### data of ints, none and tuples of such, not deep -/
mutual
def lowD : Nat → D → Bool
  | _, .none => true
  | _, .int _ => true
  | n + 1, .tuple xs => lowDs n xs
  | _, _ => false
def lowDs : Nat → List D → Bool
  | _, [] => true
  | n, d :: r => lowD n d && lowDs n r
end
mutual
theorem low_okD : ∀ {n : Nat} {d : D}, lowD n d = true → okD d = true
  | _, .none, _ => rfl
  | _, .int _, _ => rfl
  | 0, .tuple xs, h => by simp [lowD] at h
  | n + 1, .tuple xs, h => by
    unfold okD
    exact low_okDs (by simpa [lowD] using h)
  | n, .bool _, h => by cases n <;> simp [lowD] at h
  | n, .str _, h => by cases n <;> simp [lowD] at h
  | n, .list _, h => by cases n <;> simp [lowD] at h
  | n, .dict _, h => by cases n <;> simp [lowD] at h
theorem low_okDs : ∀ {n : Nat} {d : List D}, lowDs n d = true → okDs d = true
  | _, [], _ => rfl
  | n, d :: r, h => by
    unfold lowDs at h
    unfold okDs
    obtain ⟨h1, h2⟩ := Bool.and_eq_true_iff.mp h
    rw [low_okD h1, low_okDs h2]
    rfl
end
mutual
theorem low_lay : ∀ {n : Nat} {d : D}, lowD n d = true → d.canLay0 = true
  | _, .none, _ => by simp [PyData.canLay0]
  | _, .int _, _ => by simp [PyData.canLay0]
  | 0, .tuple xs, h => by simp [lowD] at h
  | n + 1, .tuple xs, h => by
    unfold PyData.canLay0
    exact low_lays (by simpa [lowD] using h)
  | n, .bool _, h => by cases n <;> simp [lowD] at h
  | n, .str _, h => by cases n <;> simp [lowD] at h
  | n, .list _, h => by cases n <;> simp [lowD] at h
  | n, .dict _, h => by cases n <;> simp [lowD] at h
theorem low_lays : ∀ {n : Nat} {d : List D}, lowDs n d = true → PyData.canLayAll0 d = true
  | _, [], _ => by simp [PyData.canLayAll0]
  | n, d :: r, h => by
    unfold lowDs at h
    unfold PyData.canLayAll0
    obtain ⟨h1, h2⟩ := Bool.and_eq_true_iff.mp h
    rw [low_lay h1, low_lays h2]
    rfl
end
mutual
theorem low_dep : ∀ {n : Nat} {d : D}, lowD n d = true → PyData.depth d ≤ n + 1
  | _, .none, _ => by simp [PyData.depth]
  | _, .int _, _ => by simp [PyData.depth]
  | 0, .tuple xs, h => by simp [lowD] at h
  | n + 1, .tuple xs, h => by
    unfold PyData.depth
    have := low_deps (n := n) (d := xs) (by simpa [lowD] using h)
    omega
  | n, .bool _, h => by cases n <;> simp [lowD] at h
  | n, .str _, h => by cases n <;> simp [lowD] at h
  | n, .list _, h => by cases n <;> simp [lowD] at h
  | n, .dict _, h => by cases n <;> simp [lowD] at h
theorem low_deps : ∀ {n : Nat} {d : List D}, lowDs n d = true → PyData.depthAll d ≤ n + 1
  | _, [], _ => by simp [PyData.depthAll]
  | n, d :: r, h => by
    unfold lowDs at h
    unfold PyData.depthAll
    obtain ⟨h1, h2⟩ := Bool.and_eq_true_iff.mp h
    have := low_dep h1
    have := low_deps h2
    omega
end
theorem low_shaped {n : Nat} {d : D} (h : lowD n d = true) (hn : n ≤ 60) : SeqAt.shaped d = true := by
  unfold SeqAt.shaped
  rw [low_lay h, Bool.true_and]
  have := low_dep h
  exact decide_eq_true (by omega)
theorem low_shapedL {n : Nat} {ds : List D} (h : lowDs n ds = true) (hn : n ≤ 60) : SeqAt.shaped (.list ds) = true := by
  unfold SeqAt.shaped
  have e : PyData.canLay0 (.list ds) = true := by
    unfold PyData.canLay0
    exact low_lays h
  rw [e, Bool.true_and]
  have := low_deps h
  refine decide_eq_true ?_
  unfold PyData.depth
  omega
mutual
theorem low_eq : ∀ {n m : Nat} {d e : D}, lowD n d = true → lowD m e = true → (PyData.eqv d e = true ↔ d = e)
  | _, _, .none, .none, _, _ => by simp [PyData.eqv]
  | _, _, .none, .int _, _, _ => by simp [PyData.eqv]
  | _, _, .none, .tuple _, _, _ => by simp [PyData.eqv]
  | _, _, .int _, .none, _, _ => by simp [PyData.eqv]
  | _, _, .int _, .int _, _, _ => by simp [PyData.eqv]
  | _, _, .int _, .tuple _, _, _ => by simp [PyData.eqv]
  | _, _, .tuple _, .none, _, _ => by simp [PyData.eqv]
  | _, _, .tuple _, .int _, _, _ => by simp [PyData.eqv]
  | n + 1, m + 1, .tuple xs, .tuple ys, h, k => by
    have := low_eqs (n := n) (m := m) (d := xs) (e := ys) (by simpa [lowD] using h) (by simpa [lowD] using k)
    simp only [PyData.eqv, PyData.tuple.injEq]
    exact this
  | 0, _, .tuple xs, .tuple ys, h, _ => by simp [lowD] at h
  | _, 0, .tuple xs, .tuple ys, _, h => by simp [lowD] at h
  | n, _, .bool _, _, h, _ => by cases n <;> simp [lowD] at h
  | n, _, .str _, _, h, _ => by cases n <;> simp [lowD] at h
  | n, _, .list _, _, h, _ => by cases n <;> simp [lowD] at h
  | n, _, .dict _, _, h, _ => by cases n <;> simp [lowD] at h
  | _, n, _, .bool _, _, h => by cases n <;> simp [lowD] at h
  | _, n, _, .str _, _, h => by cases n <;> simp [lowD] at h
  | _, n, _, .list _, _, h => by cases n <;> simp [lowD] at h
  | _, n, _, .dict _, _, h => by cases n <;> simp [lowD] at h
theorem low_eqs : ∀ {n m : Nat} {d e : List D}, lowDs n d = true → lowDs m e = true → (PyData.eqvAll d e = true ↔ d = e)
  | _, _, [], [], _, _ => by simp [PyData.eqvAll]
  | _, _, [], _ :: _, _, _ => by simp [PyData.eqvAll]
  | _, _, _ :: _, [], _, _ => by simp [PyData.eqvAll]
  | n, m, d :: ds, e :: es, h, k => by
    unfold lowDs at h k
    obtain ⟨h1, h2⟩ := Bool.and_eq_true_iff.mp h
    obtain ⟨k1, k2⟩ := Bool.and_eq_true_iff.mp k
    unfold PyData.eqvAll
    rw [Bool.and_eq_true_iff, low_eq h1 k1, low_eqs h2 k2, List.cons.injEq]
end
theorem low_ints : ∀ (ns : List Int) (n : Nat), lowDs n (ns.map PyData.int) = true
  | [], _ => rfl
  | i :: ns, n => by
    rw [List.map_cons]
    unfold lowDs
    rw [low_ints ns n, Bool.and_true]
    cases n <;> rfl
section
variable {ν ν' : Nat} {W : Wx} {σ : L2.St} {Γ : Ga} {H H1 H2 : Hp} {k k' : Nat → Sl → Prop} {Q : VK} {z : Sl} {v : V} {a b e c : Expr} {es rest : List Expr} {x : D} {pos p0 p1 p2 p3 p4 p5 : Pos} {p : Addr} {st : Stmt} {sts body : List Stmt} {P P' : Po} {nm : Str}
theorem q_revT {j : Nat} (h : QE W ν Γ a fun ν1 x => ∃ ds, x = .d (.tuple ds) ∧ k ν1 (.d (.tuple ds.reverse))) : QE W ν Γ (.Subscript a (.Slice none none (some (.UnaryOp .USub (.Constant (.int 1) j p1) p2)) p3) pos) k := fun σ H Q r K => by
  refine wp_of (QK.pe_revT pe_wp) ?_
  refine h σ H _ r fun v H1 x r1 e1 i1 f1 _ ⟨ds, ex, hk⟩ => ?_
  subst ex
  obtain ⟨a, vs, rfl, s1, s2⟩ := Im.tupI i1
  exact ⟨a, vs, rfl, s1, fun p hp => Kt.newT (K.step e1 r1) r1 hp s2.reverse hk⟩
/-- (x, ..) * n, n ≥ 1 -/
theorem q_repT (h : QE W ν Γ a fun ν1 x => ∃ d, x = .d (.tuple [d]) ∧ QE W ν1 Γ b fun ν2 y => ∃ n : Nat, y = .d (.int ((n : Int) + 1)) ∧ n + 1 ≤ 1000 ∧ k ν2 (.d (.tuple (List.replicate (n + 1) d)))) : QE W ν Γ (.BinOp a .Mult b pos) k := by
  have ho : OpR W.X (binaryOp .Mult) (fun x y H Q => (∃ l xs, x = .ref l ∧ y = .int 1 ∧ SqT W.X.K H l xs ∧ Q (.ref l) H) ∨ rRepT W.X.K x y H Q) := by
    intro pins s σ H x y v u Q I rx ry h
    rcases h with h | h
    · exact QK.op_rep1 pins s σ H x y v u Q I rx ry h
    · exact op_repT pins s σ H x y v u Q I rx ry h
  refine q_two (pe_op ho pe_wp pe_wp) (fun μ x y => ∃ d, x = .d (.tuple [d]) ∧ ∃ n : Nat, y = .d (.int ((n : Int) + 1)) ∧ n + 1 ≤ 1000 ∧ k μ (.d (.tuple (List.replicate (n + 1) d)))) ?_ ?_
  · rintro μ x y ⟨d, rfl, n, rfl, hl, hk⟩ σ H v u Q r i1 i2 _ _ K
    obtain ⟨a, vs, rfl, s1, s2⟩ := Im.tupI i1
    rw [Im.intI i2]
    obtain ⟨w, rfl, hw⟩ : ∃ w, vs = [w] ∧ Im W.X.K H w d := by
      cases s2 with
      | cons q r =>
        cases r
        exact ⟨_, rfl, q⟩
    cases n with
    | zero => exact .inl ⟨a, [w], rfl, rfl, s1, K.dat r (.tup s1 (.cons hw .nil)) hk⟩
    | succ n =>
      refine .inr ⟨a, _, [w], rfl, rfl, s1, by simp, by omega, by omega, by simp, fun p hp => ?_⟩
      have e : ∀ n : Nat, (List.replicate n [w]).flatten = List.replicate n w := fun n => by
        induction n with
        | zero => rfl
        | succ n ih =>
          rw [List.replicate_succ, List.flatten_cons, ih, List.replicate_succ]
          rfl
      have e3 : (((n + 1 : Nat) : Int) + 1).toNat = n + 1 + 1 := by omega
      rw [e3, e]
      exact K.newT r hp (ImA.replicate hw (n + 1 + 1)) hk
  · exact h.mono fun x ⟨ds, e, q⟩ => q.mono fun y q2 => ⟨ds, e, q2⟩
/-- enumerate(t) -/
def enumD (ds : List D) : List D := ds.zipIdx.map fun q => PyData.tuple [.int (q.2 : Int), q.1]
theorem enumD_length (ds : List D) : (enumD ds).length = ds.length := by
  unfold enumD
  rw [List.length_map, List.length_zipIdx]
theorem ItD.enum {a : Addr} {ds : List D} (h : (V.ref a, Sl.d (.tuple ds)) ∈ W.gh) : ItD W (QK.IteT W.X.K a) (fun _ => True) (enumD ds) := fun i H σ Γ _ r => by
  obtain ⟨q, _, _⟩ := r.pin _ h
  obtain ⟨b, vs, e, s1, s2⟩ := Im.tupI q
  cases e
  have hl := s2.length
  refine ⟨fun hi => ⟨?_, fun x H' hy => ?_⟩, fun hi => ⟨vs, s1, by rw [hl, ← enumD_length]; exact hi⟩⟩
  · rw [enumD_length] at hi
    have hv : i < vs.length := by omega
    exact ⟨vs, vs[i], s1, List.getElem?_eq_getElem hv⟩
  · obtain ⟨T, x1, rfl, nT, rfl, hx⟩ := hy
    obtain ⟨d, h1, h2⟩ := s2.getV (hx vs s1)
    refine ⟨.new nT, r.st.new nT, .tuple [.int (i : Int), d], ?_, .tup (.inl (.inl upd_same)) (.cons (.int _) (.cons (h2.kp (.new nT)) .nil))⟩
    unfold enumD
    rw [List.getElem?_map, List.getElem?_zipIdx, h1]
    simp
theorem qi_enum {R : Nat → (Ga → Prop) → List D → Prop} {elts : List Expr} {kk : Nat} (hm : W.X.mg "enumerate" = none) (h : QE W ν Γ e fun ν1 z => ∃ ds, z = .d (.tuple ds) ∧ R ν1 (fun _ => True) (enumD ds)) (hg : Gl W.X "enumerate" := by rfl)
    (hs : starEach [e] W.X.env = (false, eval e W.X.env) :: starEach [] W.X.env := by rfl) : QI W ν Γ (.Tuple elts kk p1) (.Call (.Name "enumerate" p0) [e] [] pos) R := by
  refine ⟨_, QK.pi_enumT hg hm pe_wp hs, fun σ H Rr r K => ?_⟩
  refine h σ H _ r fun v H1 z r1 e1 i1 f1 n1 ⟨ds, ez, hR⟩ => ?_
  subst ez
  obtain ⟨a, vs, rfl, s1, s2⟩ := Im.tupI i1
  exact ⟨a, vs, rfl, s1, K _ H1 (fun _ => True) (enumD ds) [(.ref a, .d (.tuple ds))] (Rs.push1 r1 i1 f1 rfl) e1 (ItD.enum (by simp)) hR⟩
/-! ### the draws' state -/
theorem Wx.Ok.hu1 (ok : W.Ok) : W.X.A.units + 1 < cLine := Nat.lt_of_le_of_lt (Nat.add_le_add_left (by decide : 1 ≤ 64) _) ok.hu
theorem val_left (s : SA) (l t : Int) : valV (stD s l t) kLeft = some (.int l) := rfl
theorem val_turn (s : SA) (l t : Int) : valV (stD s l t) kTurn = some (.int t) := rfl
theorem val_great (s : SA) (l t : Int) : valV (stD s l t) kGreat = some (.ref s.sg) := rfl
theorem val_cells (s : SA) (l t : Int) : valV (stD s l t) kCells = some (.ref s.sc) := rfl
theorem put_left (s : SA) (l t l' : Int) : putK (stD s l t) kLeft (.int l') = stD s l' t := rfl
theorem put_turn (s : SA) (l t t' : Int) : putK (stD s l t) kTurn (.int t') = stD s l t' := rfl
theorem q_left (i : Nat) {j : Nat} (ok : W.Ok) (hΓ : Γ[i]? = some (some .s)) (h : ∀ l : Int, 0 ≤ l → k ν (.d (.int l))) (hN : W.X.N[i]? = some nm := by rfl) (hv : Vis W.X.env.scope nm := by first | exact Or.inl rfl | exact Or.inr (Or.inl rfl) | exact Or.inr (Or.inr rfl))
    (hd : (nm == ("__debug__" : Str)) = false := by decide) (hcd : (nm == ("__classdict__" : Str)) = false := by decide) : QE W ν Γ (.Subscript (.Name nm p1) (.Constant (.str "left") j p2) pos) k := fun σ H Q r K => by
  refine wp_of (pe_dget ok.hu1 (pe_var hN hv hd hcd) pe_str (by exact fun _ _ => rfl)) ?_
  obtain ⟨v, hv1, ⟨s, hs, rfl⟩, _⟩ := r.get hΓ
  obtain ⟨⟨l, t, gs, h1, h2, h3, h4⟩, h5, h6⟩ := r.st s hs
  have g := DGet.k (k := kLeft) h1
  rw [val_left] at g
  exact ⟨_, hv1, s.sd, _, rfl, g, K.int r (h l h3)⟩
theorem q_turn (i : Nat) {j : Nat} (ok : W.Ok) (hΓ : Γ[i]? = some (some .s)) (h : ∀ t : Int, 0 ≤ t → t ≤ (ν : Int) → k ν (.d (.int t))) (hN : W.X.N[i]? = some nm := by rfl) (hv : Vis W.X.env.scope nm := by first | exact Or.inl rfl | exact Or.inr (Or.inl rfl) | exact Or.inr (Or.inr rfl))
    (hd : (nm == ("__debug__" : Str)) = false := by decide) (hcd : (nm == ("__classdict__" : Str)) = false := by decide) : QE W ν Γ (.Subscript (.Name nm p1) (.Constant (.str "turn") j p2) pos) k := fun σ H Q r K => by
  refine wp_of (pe_dget ok.hu1 (pe_var hN hv hd hcd) pe_str (by exact fun _ _ => rfl)) ?_
  obtain ⟨v, hv1, ⟨s, hs, rfl⟩, _⟩ := r.get hΓ
  obtain ⟨⟨l, t, gs, h1, h2, h3, h4, h7, h8⟩, h5, h6⟩ := r.st s hs
  have g := DGet.k (k := kTurn) h1
  rw [val_turn] at g
  exact ⟨_, hv1, s.sd, _, rfl, g, K.int r (h t h7 h8)⟩
theorem Ext.mt {C : Cq} {o : HO} (m : Mt C p) : Ext C H (upd H p o) := fun b u q n => by
  have : b ≠ p := fun e => n (by rw [e]; exact m)
  rw [upd_ne this]
  exact q
theorem StAt.upL {s : SA} {n : Nat} (h : StAt s n H) {l t : Int} (hl : 0 ≤ l) (ht : 0 ≤ t) {m : Nat} (hm : t ≤ (m : Int)) (hne : s.sd ≠ s.sg ∧ s.sd ≠ s.sc) : StAt s m (upd H s.sd (.dK (stD s l t))) := by
  obtain ⟨⟨l0, t0, gs, h1, h2, h3, h4, h5⟩, h6, h7⟩ := h
  exact ⟨⟨l, t, gs, upd_same, by rw [upd_ne hne.1.symm]; exact h2, hl, h4, ht, hm⟩, by rw [upd_ne hne.2.symm]; exact h6, h7⟩
theorem StAt.ap {s : SA} {n : Nat} (h : StAt s n H) : s.sd ≠ s.sg ∧ s.sd ≠ s.sc := by
  obtain ⟨⟨l0, t0, gs, h1, h2, h3, h4, h5⟩, h6, h7⟩ := h
  refine ⟨fun e => ?_, fun e => ?_⟩
  · rw [e, h2] at h1
    cases h1
  · rw [e, h6] at h1
    cases h1
theorem putSt {s : SA} (r : W.Rs ν σ Γ H) (hs : W.c.st = some s) {l t : Int} (hl : 0 ≤ l) (ht : 0 ≤ t) {m : Nat} (hm : t ≤ (m : Int)) : W.Rs m σ Γ (upd H s.sd (.dK (stD s l t))) := by
  refine r.extd (Ext.mt ⟨s, hs, .inl rfl⟩) fun s' hs' => ?_
  rw [hs] at hs'
  cases hs'
  exact (r.st s hs).upL hl ht hm (r.st s hs).ap
theorem s_putLeft (i : Nat) {j : Nat} (ok : W.Ok) (hΓ : Γ[i]? = some (some .s)) (h : QE W ν Γ e fun ν1 z => ∃ l : Int, z = .d (.int l) ∧ 0 ≤ l ∧ P.nx ν1 Γ) (hN : W.X.N[i]? = some nm := by rfl) (hv : Vis W.X.env.scope nm := by first | exact Or.inl rfl | exact Or.inr (Or.inl rfl) | exact Or.inr (Or.inr rfl))
    (hd : (nm == ("__debug__" : Str)) = false := by decide) (hcd : (nm == ("__classdict__" : Str)) = false := by decide)
    (hs : swapsWith e (some (.Subscript (.Name nm p1) (.Constant (.str "left") j p3) p2)) pos.line W.X.env = pure false := by rfl) : R1 W ν (.Assign [.Subscript (.Name nm p1) (.Constant (.str "left") j p3) p2] e pos) Γ P := fun σ H D r E => by
  refine wps_of (ps_dput ok.hu1 (pe_var hN hv hd hcd) pe_str pe_wp hs) ?_
  refine h σ H _ r fun v H1 z r1 e1 i1 f1 n1 ⟨l, ez, hl, hk⟩ => ?_
  subst ez
  rw [Im.intI i1]
  obtain ⟨v, hv1, ⟨s, hs, rfl⟩, _⟩ := r1.get hΓ
  obtain ⟨⟨l0, t, gs, h1, h2, h3, h4, h7, h8⟩, h5, h6⟩ := r1.st s hs
  have g := DPut.k (k := kLeft) (v := .int l) h1 (by show 4 < sizeLine; decide)
  rw [put_left] at g
  exact ⟨_, hv1, s.sd, _, rfl, g, E.nx σ _ _ (putSt r1 hs hl h7 h8) hk⟩
theorem s_putTurn (i : Nat) {j : Nat} (ok : W.Ok) (hΓ : Γ[i]? = some (some .s)) (h : QE W ν Γ e fun ν1 z => ∃ (t : Int) (m : Nat), z = .d (.int t) ∧ 0 ≤ t ∧ t ≤ (m : Int) ∧ P.nx m Γ) (hN : W.X.N[i]? = some nm := by rfl) (hv : Vis W.X.env.scope nm := by first | exact Or.inl rfl | exact Or.inr (Or.inl rfl) | exact Or.inr (Or.inr rfl))
    (hd : (nm == ("__debug__" : Str)) = false := by decide) (hcd : (nm == ("__classdict__" : Str)) = false := by decide)
    (hs : swapsWith e (some (.Subscript (.Name nm p1) (.Constant (.str "turn") j p3) p2)) pos.line W.X.env = pure false := by rfl) : R1 W ν (.Assign [.Subscript (.Name nm p1) (.Constant (.str "turn") j p3) p2] e pos) Γ P := fun σ H D r E => by
  refine wps_of (ps_dput ok.hu1 (pe_var hN hv hd hcd) pe_str pe_wp hs) ?_
  refine h σ H _ r fun v H1 z r1 e1 i1 f1 n1 ⟨t', m, ez, hl, hm, hk⟩ => ?_
  subst ez
  rw [Im.intI i1]
  obtain ⟨v, hv1, ⟨s, hs, rfl⟩, _⟩ := r1.get hΓ
  obtain ⟨⟨l0, t, gs, h1, h2, h3, h4, h7, h8⟩, h5, h6⟩ := r1.st s hs
  have g := DPut.k (k := kTurn) (v := .int t') h1 (by show 4 < sizeLine; decide)
  rw [put_turn] at g
  exact ⟨_, hv1, s.sd, _, rfl, g, E.nx σ _ _ (putSt r1 hs h3 hl hm) hk⟩
/-- for .. in state["cells"] -/
theorem ItD.cells {s : SA} (hs : W.c.st = some s) : ItD W (Itl W.X.K s.sc) (fun _ => True) (s.cells.map PyData.int) := fun j H σ Γ _ r => by
  obtain ⟨_, h5, h6⟩ := r.st s hs
  have s1 : SqL W.X.K H s.sc (s.cells.map V.int) := .inl (.inl h5)
  refine ⟨fun hi => ⟨?_, fun x H' hy => ?_⟩, fun hi => ⟨_, s1, by simpa using hi⟩⟩
  · have hv : j < (s.cells.map V.int).length := by simpa using hi
    exact ⟨_, _, s1, List.getElem?_eq_getElem hv⟩
  · obtain ⟨rfl, hx⟩ := hy
    obtain ⟨d, h1, h2⟩ := (ImA.of_ints (K := W.X.K)).getV (hx _ s1)
    exact ⟨.refl, r.st, d, h1, h2⟩
theorem qi_cells (i : Nat) {tg : Expr} {j : Nat} {R : Nat → (Ga → Prop) → List D → Prop} (ok : W.Ok) (hΓ : Γ[i]? = some (some .s)) (h : ∀ ns : List Int, R ν (fun _ => True) (ns.map PyData.int)) (hN : W.X.N[i]? = some nm := by rfl) (hv : Vis W.X.env.scope nm := by first | exact Or.inl rfl | exact Or.inr (Or.inl rfl) | exact Or.inr (Or.inr rfl))
    (hd : (nm == ("__debug__" : Str)) = false := by decide) (hcd : (nm == ("__classdict__" : Str)) = false := by decide) : QI W ν Γ tg (.Subscript (.Name nm p1) (.Constant (.str "cells") j p2) pos) R := by
  refine ⟨_, pi_list (pe_dget ok.hu1 (pe_var hN hv hd hcd) pe_str (by exact fun _ _ => rfl)), fun σ H Rr r K => ?_⟩
  obtain ⟨v, hv1, ⟨s, hs, rfl⟩, _⟩ := r.get hΓ
  obtain ⟨⟨l0, t, gs, h1, h2, h3, h4, h7, h8⟩, h5, h6⟩ := r.st s hs
  have g := DGet.k (k := kCells) h1
  rw [val_cells] at g
  exact ⟨_, hv1, s.sd, _, rfl, g, s.sc, rfl, ⟨_, .inl (.inl h5)⟩, K _ H _ _ [] r .refl (ItD.cells hs) (h s.cells)⟩
/-- a great one, while there is one; or e -/
theorem q_refill (i : Nat) {j j2 j3 : Nat} (ok : W.Ok) (hΓ : Γ[i]? = some (some .s)) (h1 : ∀ g : Int, 0 ≤ g → k ν (.d (.int g))) (h2 : QE W ν Γ e k) {pa pb pc pd pe pf pg ph : Pos} {j4 : Nat} (hN : W.X.N[i]? = some nm := by rfl) (hv : Vis W.X.env.scope nm := by first | exact Or.inl rfl | exact Or.inr (Or.inl rfl) | exact Or.inr (Or.inr rfl))
    (hd : (nm == ("__debug__" : Str)) = false := by decide) (hcd : (nm == ("__classdict__" : Str)) = false := by decide)
    (hbase : attributeBase (.Subscript (.Name nm p1) (.Constant (.str "great") j p2) p3) "pop" W.X.env (eval (.Subscript (.Name nm p1) (.Constant (.str "great") j p2) p3) W.X.env) = eval (.Subscript (.Name nm p1) (.Constant (.str "great") j p2) p3) W.X.env := by rfl)
    (hfew : ((backTo pb (starEach ([.Constant (.int 0) j4 ph]) W.X.env)).all (fun x => !x.1) && (backToKw pb (keywordEach [] W.X.env)).all (fun x => x.1.isSome)
      && decide (([Expr.Constant (.int 0) j4 ph]).length + ([] : List Keyword).length + (if ([] : List Keyword).isEmpty then 0 else 1) < 30)) = true := by rfl)
    (hline : (pa.endLine == pb.line) = true := by rfl) :
    QE W ν Γ (.IfExp (.Compare (.Subscript (.Name nm pc) (.Constant (.str "great") j2 pd) pe) [.NotEq] [.List [] pf] pg) (.Call (.Attribute (.Subscript (.Name nm p1) (.Constant (.str "great") j p2) p3) "pop" pa) [.Constant (.int 0) j4 ph] [] pb) e pos) k := fun σ H Q r K => by
  refine wp_of (pe_ifExp (pt_cmp (pc_op (op_neD ok.hu) (pe_dget ok.hu1 (pe_var hN hv hd hcd) pe_str (by exact fun _ _ => rfl)) (pe_lst pa_nil)) (nomark _))
    (pe_bm PySem.F.plainAttrs_list PySem.F.slot_list_pop PySem.F.type_list_pop mt_popAt (pe_dget ok.hu1 (pe_var hN hv hd hcd) pe_str (by exact fun _ _ => rfl)) (pa_cons pe_int pa_nil (by rfl)) hbase hfew hline (by rfl) (by rfl)) pe_wp) ?_
  obtain ⟨v, hv1, ⟨s, hs, rfl⟩, _⟩ := r.get hΓ
  obtain ⟨⟨l0, t, gs, q1, q2, q3, q4, q7, q8⟩, q5, q6⟩ := r.st s hs
  have g := DGet.k (k := kGreat) q1
  rw [val_great] at g
  refine ⟨_, hv1, s.sd, _, rfl, g, by decide, fun p hp => ?_⟩
  have ne : s.sg ≠ p := ne_of_none q2 hp
  refine ⟨.list (gs.map PyData.int), .list [], .lst (.inl (.inl (by rw [upd_ne ne]; exact q2))) ((ImA.of_ints (K := W.X.K)).dp (low_okDs (low_ints gs 0))), .lst (.inl (.inl upd_same)) .nil, low_shapedL (low_ints gs 0) (by decide), by decide, _, rfl, ?_⟩
  have r1 : W.Rs ν σ Γ (upd H p (.lst [])) := Rs.new r hp
  cases gs with
  | nil =>
    show wpE W.X e σ _ Q
    exact h2 σ _ Q r1 (K.step (.new hp) r1)
  | cons g0 gs =>
    have ec : (!PyData.eqv (.list ((g0 :: gs).map PyData.int)) (.list [])) = true := by simp [PyData.eqv, PyData.eqvAll]
    rw [ec]
    show (if true = true then _ else _)
    rw [if_pos rfl]
    obtain ⟨⟨l0', t', gs', q1', q2', q3', q4', q7', q8'⟩, q5', q6'⟩ := r1.st s hs
    have e2 : upd H p (.lst []) s.sg = H s.sg := upd_ne ne
    have e1 : upd H p (.lst []) s.sd = H s.sd := upd_ne (ne_of_none q1 hp)
    have g' := DGet.k (k := kGreat) (e1.trans q1)
    rw [val_great] at g'
    refine ⟨_, hv1, s.sd, _, rfl, g', .inl ⟨rfl, _, .inl (.inl (e2.trans q2))⟩, ?_⟩
    refine ⟨s.sg, _, 0, 0, .int g0, rfl, rfl, e2.trans q2, by decide, by decide, by unfold seqIndex?; simp, rfl, ?_⟩
    have r2 : W.Rs ν σ Γ (upd (upd H p (.lst [])) s.sg (.lst (gs.map V.int))) := by
      refine r1.extd (Ext.mt ⟨s, hs, .inr rfl⟩) fun s' hs' => ?_
      rw [hs] at hs'
      cases hs'
      have ap := (r.st s hs).ap
      refine ⟨⟨l0, t, gs, ?_, upd_same, q3, fun g hg => q4 g (List.mem_cons_of_mem _ hg), q7, q8⟩, ?_, q6⟩
      · rw [upd_ne ap.1]
        exact e1.trans q1
      · rw [upd_ne q6, upd_ne (ne_of_none q5 hp)]
        exact q5
    exact K _ _ (.d (.int g0)) r2 ((Ext.new hp).trans (Ext.mt ⟨s, hs, .inr rfl⟩)) (.int g0) .d (.no rfl) (h1 g0 (q4 g0 List.mem_cons_self))
/-- {k: v} -/
theorem q_disp1 (h : QE W ν Γ a fun ν1 x => ∃ i, x = .d (.int i) ∧ QE W ν1 Γ b fun ν2 y => ∃ d, y = .d d ∧ ∀ p, k ν2 (.fk p [(i, d)])) : QE W ν Γ (.Dict [some a] [b] pos) k := fun σ H Q r K => by
  refine wp_of (pe_disp (pps_cons pe_wp pe_wp pps_nil) rfl rfl (by simp) (by simp)) ?_
  intro p hp
  have hp0 : W.H0 p = none := Rs.fresh r hp
  have nmt : ¬ Mt W.c p := r.nmt hp0
  refine h σ _ _ (Rs.new r hp) fun v H1 x r1 e1 i1 f1 n1 ⟨i, ex, q⟩ => ?_
  subst ex
  refine q σ H1 _ r1 fun u H2 y r2 e2 i2 f2 n2 ⟨d, ey, hk⟩ => ?_
  subst ey
  have h2 : H2 p = some (.dK []) := (e1.trans e2) p _ upd_same nmt
  refine ⟨h2, [(.inl i, u)], ?_, by simp, ?_⟩
  · rw [Im.intI i1]
    rfl
  have ex : Ext W.c H (upd H2 p (.dK [(.inl i, u)])) := fun b o hb nm => by
    rw [upd_ne (ne_of_none hb hp)]
    exact (((Ext.new hp).trans e1).trans e2) b o hb nm
  refine K (.ref p) (upd H2 p (.dK [(.inl i, u)])) (.fk p [(i, d)]) (Rs.extd r ex (r2.st.mut r2.st0 hp0 r2.ext)) ex ⟨rfl, _, upd_same, .cons ⟨rfl, Im.kp (.mutK h2) i2⟩ .nil⟩ ⟨fun a q => ?_, fun _ q => nomatch q⟩ (fun a q => ?_) (hk p)
  · cases q
    exact ⟨Rs.notin r hp, hp0⟩
  · cases q
    exact hp
/-! ### data compared -/
theorem c_eqP (h : QE W ν Γ a fun ν1 x => ∃ d, x = .d d ∧ lowD 9 d = true ∧ QE W ν1 Γ b fun ν2 y => ∃ e, y = .d e ∧ lowD 9 e = true ∧ k ν2 (.d (.bool (PyData.eqv d e)))) (ok : W.Ok) : QCmp W ν Γ .Eq a b k := by
  refine c_eqD (h.mono ?_) ok
  rintro ν1 x ⟨d, rfl, hd, q⟩
  refine ⟨low_okD hd, low_shaped hd (by decide), q.mono ?_⟩
  rintro ν2 y ⟨e, rfl, he, hk⟩
  exact ⟨low_okD he, low_shaped he (by decide), hk⟩
theorem c_neP (h : QE W ν Γ a fun ν1 x => ∃ d, x = .d d ∧ lowD 9 d = true ∧ QE W ν1 Γ b fun ν2 y => ∃ e, y = .d e ∧ lowD 9 e = true ∧ k ν2 (.d (.bool (!PyData.eqv d e)))) (ok : W.Ok) : QCmp W ν Γ .NotEq a b k := by
  refine c_neD (h.mono ?_) ok
  rintro ν1 x ⟨d, rfl, hd, q⟩
  refine ⟨low_okD hd, low_shaped hd (by decide), q.mono ?_⟩
  rintro ν2 y ⟨e, rfl, he, hk⟩
  exact ⟨low_okD he, low_shaped he (by decide), hk⟩
theorem eqv_nilL (xs : List D) : PyData.eqv (.list xs) (.list []) = xs.isEmpty := by
  cases xs <;> simp [PyData.eqv, PyData.eqvAll]
theorem lsOf_ok {xs : List D} (h : lsOf z = some xs) (hx : lowDs 9 xs = true) : okZ z = true ∧ SeqAt.shaped (dOf z) = true ∧ dOf z = .list xs := by
  cases z with
  | o a ys =>
    cases h
    exact ⟨low_okDs hx, low_shapedL hx (by decide), rfl⟩
  | f a ys =>
    cases h
    exact ⟨low_okDs hx, low_shapedL hx (by decide), rfl⟩
  | b ys =>
    cases h
    exact ⟨low_okDs hx, low_shapedL hx (by decide), rfl⟩
  | _ => cases h
/-- xs == [] -/
theorem c_eqNl (h : QE W ν Γ a fun ν1 x => ∃ xs, lsOf x = some xs ∧ lowDs 9 xs = true ∧ k ν1 (.d (.bool xs.isEmpty))) (ok : W.Ok) : QCmp W ν Γ .Eq a (.List [] p0) k := by
  refine c_eqD (h.mono ?_) ok
  rintro ν1 x ⟨xs, hx, hl, hk⟩
  obtain ⟨h1, h2, h3⟩ := lsOf_ok hx hl
  refine ⟨h1, h2, q_lst (qa_nil ⟨_, rfl, by decide, fun p => ⟨rfl, by show SeqAt.shaped (.list []) = true; decide, ?_⟩⟩)⟩
  rw [h3]
  show k _ (.d (.bool (PyData.eqv (.list xs) (.list []))))
  rw [eqv_nilL]
  exact hk
theorem c_neNl (h : QE W ν Γ a fun ν1 x => ∃ xs, lsOf x = some xs ∧ lowDs 9 xs = true ∧ k ν1 (.d (.bool (!xs.isEmpty)))) (ok : W.Ok) : QCmp W ν Γ .NotEq a (.List [] p0) k := by
  refine c_neD (h.mono ?_) ok
  rintro ν1 x ⟨xs, hx, hl, hk⟩
  obtain ⟨h1, h2, h3⟩ := lsOf_ok hx hl
  refine ⟨h1, h2, q_lst (qa_nil ⟨_, rfl, by decide, fun p => ⟨rfl, by show SeqAt.shaped (.list []) = true; decide, ?_⟩⟩)⟩
  rw [h3]
  show k _ (.d (.bool (!PyData.eqv (.list xs) (.list []))))
  rw [eqv_nilL]
  exact hk
end
end QL

/-! D0: the text by places; what the top gives; data of doors, passes, walks. -/
namespace PF
open PySem PySem.Spec PyProof.Rows L2 QL PR
abbrev FnP (K : PySem.W.Frag) (x : Str) (st : Stmt) (f : Addr) (fd : FuncData) : Prop := FunD K x x (defArgs st) (defBody st) (defScope st) [] [] f fd
/-- a def of the top stands -/
structure At (K : PySem.W.Frag) (mg : Str → Option Value) (x : Str) (st : Stmt) : Prop where
  ex : ∃ f fd, FnP K x st f fd ∧ mg x = some (.ref f)
structure Bi (mg : Str → Option Value) : Prop where
  abs : mg "abs" = none
  all : mg "all" = none
  bool : mg "bool" = none
  enumerate : mg "enumerate" = none
  int : mg "int" = none
  isinstance : mg "isinstance" = none
  len : mg "len" = none
  list : mg "list" = none
  range : mg "range" = none
  reversed : mg "reversed" = none
  tuple : mg "tuple" = none
  zip : mg "zip" = none
/-- what else the top binds -/
structure Tx (K : PySem.W.Frag) (mg : Str → Option Value) (C : Addr) : Prop where
  gcd : mg "gcd" = some (.builtin "math.gcd")
  House : mg "House" = some (.ref C)
  MOST_ROOMS : ∃ t, mg "MOST_ROOMS" = some (.int 12 t)
  MOST_DOORS : ∃ t, mg "MOST_DOORS" = some (.int 20 t)
  GREATEST : ∃ t, mg "GREATEST" = some (.int 999 t)
  MOST_DOORS_HERE : ∃ t, mg "MOST_DOORS_HERE" = some (.int 4 t)
section
variable {P : Program} {w : World} {K : PySem.W.Frag} {mg : Str → Option Value} {base : Heap} {C : Addr}
/-- the rule for a def of the top -/
theorem def_g {x : Str} {st : Stmt} {N ps : List Str} {lev : Nat} {spec : Spc} (A : At K mg x st) (S : FnScope N ps (defScope st))
    (hb : ∀ (kV doc pm : Value) (an : Option Addr) (cdv ct : Value) (us : List Value), us.length = ps.length → bindArgs (PySem.W.fnOf x x (defArgs st) (defBody st) (defScope st) .none kV doc pm an cdv ct) ⟨us, []⟩ = pure (ps.zip us))
    (len : ∀ ν as k, spec ν as k → as.length = ps.length)
    (hbody : ∀ (f : Addr) (cdv : Value) (A : Around) (outer : List Env) (s : Shared) (H : Hp) (E : XK) (st' : Option SA), Room lev (A.deeper (envOfC x (defScope st) s.heap.objs.size f cdv)) →
      ∀ W : Wx, W = ⟨(cxOf CX0 P w K mg base N x (defScope st) f cdv A outer s H E).nox, ⟨C, st'⟩, H, []⟩ → W.Ok → ∀ ν as k, spec ν as k → RR W ν (defBody st) (startG N.length as) { nx := fun ν' _ => k ν' (.d .none), rt := k }) : FnG P w K mg base C (lev + 1) x ps spec := by
  obtain ⟨f, fd, F, hm⟩ := A.ex
  exact fn_g F S hm (F.bindsN hb) len (hbody f)
end
/-! ### isinstance -/
def isI : D → Bool
  | .int _ => true
  | _ => false
def isT : D → Bool
  | .tuple _ => true
  | _ => false
/-- none, an int, a tuple -/
def lowT : D → Bool
  | .none => true
  | .int _ => true
  | .tuple _ => true
  | _ => false
section
variable {ν : Nat} {W : Wx} {Γ : Ga} {k : Nat → Sl → Prop} {e : Expr} {pos p0 p1 : Pos}
theorem q_isInt (hm : W.X.mg "isinstance" = none) (hmT : W.X.mg "int" = none) (h : QE W ν Γ e fun ν1 x => ∃ d, x = .d d ∧ lowT d = true ∧ k ν1 (.d (.bool (isI d)))) (hg : Gl W.X "isinstance" := by rfl) (hgT : Gl W.X "int" := by rfl)
    (he : starEach (e :: [.Name "int" p1]) W.X.env = (false, eval e W.X.env) :: starEach [.Name "int" p1] W.X.env := by rfl) : QE W ν Γ (.Call (.Name "isinstance" p0) [e, .Name "int" p1] [] pos) k := by
  refine q_isi (T := "int") hm hmT (by decide +kernel) (h.mono ?_) hg hgT (by decide) (by decide) he
  rintro ν1 x ⟨d, rfl, hd, hk⟩
  cases d with
  | int i => exact ⟨_, true, rfl, rfl, by show kitB "int" "int" = some true; decide +kernel, hk⟩
  | none => exact ⟨_, false, rfl, rfl, by show kitB "NoneType" "int" = some false; decide +kernel, hk⟩
  | tuple xs => exact ⟨_, false, rfl, rfl, by show kitB "tuple" "int" = some false; decide +kernel, hk⟩
  | _ => cases hd
theorem q_isBool (hm : W.X.mg "isinstance" = none) (hmT : W.X.mg "bool" = none) (h : QE W ν Γ e fun ν1 x => ∃ d, x = .d d ∧ lowT d = true ∧ k ν1 (.d (.bool false))) (hg : Gl W.X "isinstance" := by rfl) (hgT : Gl W.X "bool" := by rfl)
    (he : starEach (e :: [.Name "bool" p1]) W.X.env = (false, eval e W.X.env) :: starEach [.Name "bool" p1] W.X.env := by rfl) : QE W ν Γ (.Call (.Name "isinstance" p0) [e, .Name "bool" p1] [] pos) k := by
  refine q_isi (T := "bool") hm hmT (by decide +kernel) (h.mono ?_) hg hgT (by decide) (by decide) he
  rintro ν1 x ⟨d, rfl, hd, hk⟩
  cases d with
  | int i => exact ⟨_, false, rfl, rfl, by show kitB "int" "bool" = some false; decide +kernel, hk⟩
  | none => exact ⟨_, false, rfl, rfl, by show kitB "NoneType" "bool" = some false; decide +kernel, hk⟩
  | tuple xs => exact ⟨_, false, rfl, rfl, by show kitB "tuple" "bool" = some false; decide +kernel, hk⟩
  | _ => cases hd
theorem q_isTup (hm : W.X.mg "isinstance" = none) (hmT : W.X.mg "tuple" = none) (h : QE W ν Γ e fun ν1 x => ∃ d, x = .d d ∧ lowT d = true ∧ k ν1 (.d (.bool (isT d)))) (hg : Gl W.X "isinstance" := by rfl) (hgT : Gl W.X "tuple" := by rfl)
    (he : starEach (e :: [.Name "tuple" p1]) W.X.env = (false, eval e W.X.env) :: starEach [.Name "tuple" p1] W.X.env := by rfl) : QE W ν Γ (.Call (.Name "isinstance" p0) [e, .Name "tuple" p1] [] pos) k := by
  refine q_isi (T := "tuple") hm hmT (by decide +kernel) (h.mono ?_) hg hgT (by decide) (by decide) he
  rintro ν1 x ⟨d, rfl, hd, hk⟩
  cases d with
  | int i => exact ⟨_, false, rfl, rfl, by show kitB "int" "tuple" = some false; decide +kernel, hk⟩
  | none => exact ⟨_, false, rfl, rfl, by show kitB "NoneType" "tuple" = some false; decide +kernel, hk⟩
  | tuple xs => exact ⟨_, true, rfl, rfl, by show kitB "tuple" "tuple" = some true; decide +kernel, hk⟩
  | _ => cases hd
end
/-! ### data -/
abbrev eI (i : Int) : D := .int i
def eP (p : Pass) : D := .tuple [.int p.1, .int p.2]
def eDo (d : Door) : D := .tuple [.int d.1, .int d.2.1, .int d.2.2.1, .int d.2.2.2]
abbrev eIs (ns : List Int) : D := .tuple (ns.map PyData.int)
abbrev ePs (es : List Pass) : D := .tuple (es.map eP)
abbrev eDs (ds : List Door) : D := .tuple (ds.map eDo)
def eW (w : Walk) : D := .tuple [.int w.room, eIs w.pulls, ePs w.passes]
theorem low_P (p : Pass) (n : Nat) : lowD (n + 1) (eP p) = true := by cases n <;> rfl
theorem low_Ps : ∀ (es : List Pass) (n : Nat), lowDs (n + 1) (es.map eP) = true
  | [], _ => rfl
  | p :: es, n => by
    rw [List.map_cons]
    unfold lowDs
    rw [low_P p n, low_Ps es n]
    rfl
class Low (d : D) : Prop where
  w : lowD 6 d = true
class Lows (ds : List D) : Prop where
  w : lowDs 5 ds = true
mutual
theorem low_up : ∀ {n : Nat} {d : D}, lowD n d = true → ∀ m, n ≤ m → lowD m d = true
  | _, .none, _, m, _ => by cases m <;> rfl
  | _, .int _, _, m, _ => by cases m <;> rfl
  | 0, .tuple xs, h, _, _ => by simp [lowD] at h
  | n + 1, .tuple xs, h, 0, hm => by omega
  | n + 1, .tuple xs, h, m + 1, hm => by
    unfold lowD
    exact low_ups (n := n) (by simpa [lowD] using h) m (by omega)
  | n, .bool _, h, _, _ => by cases n <;> simp [lowD] at h
  | n, .str _, h, _, _ => by cases n <;> simp [lowD] at h
  | n, .list _, h, _, _ => by cases n <;> simp [lowD] at h
  | n, .dict _, h, _, _ => by cases n <;> simp [lowD] at h
theorem low_ups : ∀ {n : Nat} {ds : List D}, lowDs n ds = true → ∀ m, n ≤ m → lowDs m ds = true
  | _, [], _, _, _ => rfl
  | n, d :: r, h, m, hm => by
    unfold lowDs at h ⊢
    obtain ⟨h1, h2⟩ := Bool.and_eq_true_iff.mp h
    rw [low_up h1 m hm, low_ups h2 m hm]
    rfl
end
theorem Low.h {d : D} [k : Low d] : lowD 9 d = true := low_up k.w 9 (by decide)
theorem Lows.h {d : List D} [k : Lows d] : lowDs 9 d = true := low_ups k.w 9 (by decide)
instance : Low .none := ⟨rfl⟩
instance (i : Int) : Low (.int i) := ⟨rfl⟩
instance (p : Pass) : Low (eP p) := ⟨low_P p 5⟩
instance (xs : List D) [k : Lows xs] : Low (.tuple xs) := ⟨k.w⟩
instance : Lows [] := ⟨rfl⟩
instance (ns : List Int) : Lows (ns.map PyData.int) := ⟨low_ints ns 5⟩
instance (es : List Pass) : Lows (es.map eP) := ⟨low_Ps es 4⟩
theorem lowDs_cons {n : Nat} {d : D} {r : List D} : lowDs n (d :: r) = (lowD n d && lowDs n r) := by
  conv => lhs; unfold lowDs
theorem lowDs_app {n : Nat} : ∀ {a b : List D}, lowDs n a = true → lowDs n b = true → lowDs n (a ++ b) = true
  | [], _, _, h => h
  | d :: r, b, h, k => by
    rw [lowDs_cons] at h
    obtain ⟨h1, h2⟩ := Bool.and_eq_true_iff.mp h
    rw [List.cons_append, lowDs_cons, h1, lowDs_app h2 k]
    rfl
instance (es : List Pass) (p : Pass) : Lows (es.map eP ++ [eP p]) := ⟨lowDs_app (low_Ps es 4) (by rw [lowDs_cons, low_P p 4]; rfl)⟩
theorem low_T {n : Nat} {d : D} (h : lowD n d = true) : lowT d = true := by
  cases d with
  | int i => rfl
  | none => rfl
  | tuple xs => rfl
  | _ => cases n <;> simp [lowD] at h
class LowI (d : D) : Prop where
  w : lowD 4 d = true
instance (i : Int) : LowI (.int i) := ⟨rfl⟩
instance : LowI .none := ⟨rfl⟩
instance (p : Pass) : LowI (eP p) := ⟨low_P p 3⟩
instance (ns : List Int) : LowI (.tuple (ns.map PyData.int)) := ⟨low_ints ns 3⟩
instance (es : List Pass) : LowI (.tuple (es.map eP)) := ⟨low_Ps es 2⟩
instance (d : D) (r : List D) [a : LowI d] [b : Lows r] : Lows (d :: r) := ⟨by rw [lowDs_cons, low_up a.w 5 (by decide), b.w]; rfl⟩
instance : Lows (List.map datD []) := ⟨rfl⟩
instance (x : D) (zs : List Sl) [a : LowI x] [b : Lows (List.map datD zs)] : Lows (List.map datD (Sl.d x :: zs)) := ⟨by
  rw [List.map_cons]
  show lowDs 5 (x :: List.map datD zs) = true
  rw [lowDs_cons, low_up a.w 5 (by decide), b.w]
  rfl⟩
theorem low_W (w : Walk) : lowD 9 (eW w) = true := by
  unfold eW lowD lowDs lowDs lowDs lowDs
  rw [show lowD 8 (ePs w.passes) = true from low_Ps w.passes 6, show lowD 8 (eIs w.pulls) = true from low_ints w.pulls 7]
  rfl
instance (w : Walk) : Low (eW w) := ⟨by
  unfold eW lowD lowDs lowDs lowDs lowDs
  rw [show lowD 5 (ePs w.passes) = true from low_Ps w.passes 3, show lowD 5 (eIs w.pulls) = true from low_ints w.pulls 4]
  rfl⟩
example (i : Int) (e : Pass) : lowD 9 (.tuple [.int i, eP e]) = true := Low.h
/-! ### houses -/
structure DOk (rooms : Int) (d : Door) : Prop where
  near : 0 ≤ d.1 ∧ d.1 < rooms
  far : 0 ≤ d.2.2.1 ∧ d.2.2.1 < rooms
  one : d.2.1 ≠ 0 ∧ -6 ≤ d.2.1 ∧ d.2.1 ≤ 6
  two : d.2.2.2 ≠ 0 ∧ -6 ≤ d.2.2.2 ∧ d.2.2.2 ≤ 6
structure Hs (rooms : Int) (ds : List Door) : Prop where
  rm : 1 ≤ rooms ∧ rooms ≤ 3
  len : ds.length ≤ 5
  dr : ∀ d, d ∈ ds → DOk rooms d
end PF

/-! D1 -/
namespace PF
open PySem PySem.Spec PyProof.Rows L2 QL PR
section
variable {P : Program} {w : World} {K : PySem.W.Frag} {mg : Str → Option Value} {base : Heap} {C : Addr}
/-! ### is_number -/
abbrev s_is_number : Stmt := topS 12
theorem sc_is_number : FnScope ["value"] ["value"] (defScope s_is_number) := ⟨rfl, rfl, rfl, by decide +kernel, rfl, by decide +kernel, by decide +kernel⟩
def sp_is_number : Spc := fun ν as k => ∃ d, as = [.d d] ∧ lowD 9 d = true ∧ k ν (.d (.bool (isI d)))
theorem ok_is_number (A : At K mg "is_number" s_is_number) (B : Bi mg) (T : Tx K mg C) (HF : HouseF K C) : FnG P w K mg base C 1 "is_number" ["value"] sp_is_number := by
  refine def_g (lev := 0) A sc_is_number (fun _ _ _ _ _ _ us hl => match us, hl with | [_], _ => rfl) (fun ν as k h => ?_) fun f cdv A outer s H E st hr W hW ok ν as k h => ?_
  · obtain ⟨d, rfl, hd, hk⟩ := h
    rfl
  · obtain ⟨d, rfl, hd, hk⟩ := h
    subst hW
    have hl := low_T hd
    refine r_one (s_ret (q_and (q_isInt B.isinstance B.int (q_v 0 ⟨_, rfl, ⟨_, rfl, hl, ⟨_, rfl, fun hb => q_one (q_not (q_isBool B.isinstance B.bool (q_v 0 ⟨_, rfl, ⟨_, rfl, hl, ⟨_, rfl, ⟨rfl, ?_⟩⟩⟩⟩))), fun hb => ⟨rfl, ?_⟩⟩⟩⟩))))
    all_goals (rw [hb] at hk; exact hk)
/-! ### is_below -/
abbrev s_is_below : Stmt := topS 13
theorem sc_is_below : FnScope ["value", "size"] ["value", "size"] (defScope s_is_below) := ⟨rfl, rfl, rfl, by decide +kernel, rfl, by decide +kernel, by decide +kernel⟩
def sp_is_below : Spc := fun ν as k => ∃ i n, as = [.d (eI i), .d (eI n)] ∧ k ν (.d (.bool (decide (0 ≤ i) && decide (i < n))))
theorem ok_is_below (A : At K mg "is_below" s_is_below) (B : Bi mg) (T : Tx K mg C) (HF : HouseF K C) (G_is_number : FnG P w K mg base C 1 "is_number" ["value"] sp_is_number) : FnG P w K mg base C 2 "is_below" ["value", "size"] sp_is_below := by
  refine def_g (lev := 1) A sc_is_below (fun _ _ _ _ _ _ us hl => match us, hl with | [_, _], _ => rfl) (fun ν as k h => ?_) fun f cdv A outer s H E st hr W hW ok ν as k h => ?_
  · obtain ⟨i, n, rfl, hk⟩ := h
    rfl
  · obtain ⟨i, n, rfl, hk⟩ := h
    subst hW
    refine r_one (s_ret (q_and (q_call G_is_number (hr.mono (by decide)) (qa_cons (q_v 0 ⟨_, rfl, qa_nil ⟨rfl, ⟨_, rfl, rfl, ⟨_, rfl, fun hb => q_one (q_chain op_le op_lt (by with_unfolding_all rfl) (q_int ⟨_, rfl, q_v 0 ⟨_, rfl, ⟨_, rfl, fun hc => q_v 1 ⟨_, rfl, ⟨_, rfl, ⟨rfl, ?_⟩⟩⟩, fun hc => ⟨rfl, ?_⟩⟩⟩⟩)), fun hb => ⟨rfl, ?_⟩⟩⟩⟩⟩)))))
    · rw [hc] at hk
      exact hk
    · rw [hc] at hk
      exact hk
    · exact nomatch hb
/-! ### is_door -/
abbrev s_is_door : Stmt := topS 20
theorem sc_is_door : FnScope ["value", "rooms", "near", "first", "far", "second", "item"] ["value", "rooms"] (defScope s_is_door) := ⟨rfl, rfl, rfl, by decide +kernel, rfl, by decide +kernel, by decide +kernel⟩
def sp_is_door : Spc := fun ν as k => ∃ d rooms, as = [.d (eDo d), .d (eI rooms)] ∧ DOk rooms d ∧ k ν (.d (.bool true))
theorem ok_is_door (A : At K mg "is_door" s_is_door) (B : Bi mg) (T : Tx K mg C) (HF : HouseF K C) (G_is_below : FnG P w K mg base C 2 "is_below" ["value", "size"] sp_is_below) (G_is_number : FnG P w K mg base C 1 "is_number" ["value"] sp_is_number) : FnG P w K mg base C 3 "is_door" ["value", "rooms"] sp_is_door := by
  refine def_g (lev := 2) A sc_is_door (fun _ _ _ _ _ _ us hl => match us, hl with | [_, _], _ => rfl) (fun ν as k h => ?_) fun f cdv A outer s H E st hr W hW ok ν as k h => ?_
  · obtain ⟨d, rooms, rfl, hd, hk⟩ := h
    rfl
  · obtain ⟨d, rooms, rfl, hd, hk⟩ := h
    subst hW
    obtain ⟨t, tGREATEST⟩ := T.GREATEST
    have g1 : ∀ x : Int, 0 ≤ x ∧ x < rooms → (decide (0 ≤ x) && decide (x < rooms)) = true := fun x h => by simp [h]
    refine r_cons (s_ifF (qt_w (qw_orF (qt_notF (qt_v (q_isTup B.isinstance B.tuple (q_v 0 ⟨_, rfl, ⟨_, rfl, rfl, ⟨_, rfl, ⟨(by first | rfl | (simp; done) | assumption), qw_or1 (qt_cv (c_neI (q_len B.len (q_v 0 ⟨_, rfl, ⟨_, rfl, ⟨_, rfl, q_int ⟨_, rfl, ⟨_, rfl, ⟨(by first | rfl | (simp; done) | assumption), ?_⟩⟩⟩⟩⟩⟩))))⟩⟩⟩⟩)))))))
    refine r_cons (s_tup [2, 3, 4, 5] ok (pgs_cons (pg_name (i := 2) ok.nd rfl (.inl rfl)) (pgs_cons (pg_name (i := 3) ok.nd rfl (.inl rfl)) (pgs_cons (pg_name (i := 4) ok.nd rfl (.inl rfl)) (pgs_cons (pg_name (i := 5) ok.nd rfl (.inl rfl)) (pgs_nil))))) (q_v 0 ⟨_, rfl, ⟨_, rfl, rfl, ?_⟩⟩))
    refine r_cons (s_ifF (qt_w (qw_orF (qt_notF (qt_v (q_call G_is_below (hr.mono (by decide)) (qa_cons (q_v 2 ⟨_, rfl, qa_cons (q_v 1 ⟨_, rfl, qa_nil ⟨rfl, ⟨_, _, rfl, ⟨_, rfl, ⟨g1 _ hd.near, qw_or1 (qt_notF (qt_v (q_call G_is_below (hr.mono (by decide)) (qa_cons (q_v 4 ⟨_, rfl, qa_cons (q_v 1 ⟨_, rfl, qa_nil ⟨rfl, ⟨_, _, rfl, ⟨_, rfl, ⟨g1 _ hd.far, ?_⟩⟩⟩⟩⟩)⟩)))))⟩⟩⟩⟩⟩)⟩))))))))
    have key : ∀ x : Int, x ≠ 0 ∧ -6 ≤ x ∧ x ≤ 6 → (!decide (x = 0)) = true ∧ decide (-999 ≤ x) = true ∧ decide (x ≤ 999) = true := fun x ⟨h1, h2, h3⟩ => ⟨by simp [h1], by simp; omega, by simp; omega⟩
    have it : ∀ (i : Nat) (d' : D), [PyData.int d.2.1, .int d.2.2.2][i]? = some d' → ∃ x : Int, d' = .int x ∧ (x ≠ 0 ∧ -6 ≤ x ∧ x ≤ 6) := fun i d' h => by
      match i, h with
      | 0, h =>
        cases h
        exact ⟨_, rfl, hd.one⟩
      | 1, h =>
        cases h
        exact ⟨_, rfl, hd.two⟩
    refine r_one (s_ret (q_all ok B.all (q_lc ok (qc1 6 (fun _ y => y = .bool true) ok (qi_tup (q_tup (qa_cons (q_v 3 ⟨_, rfl, qa_cons (q_v 5 ⟨_, rfl, qa_nil ⟨_, rfl, by simp, ⟨_, rfl, ⟨trivial, by simp, fun i d' hd' gh s H C cl fp => ?_, fun acc hacc p => ⟨[true, true], ?_, ⟨rfl, hk⟩⟩⟩⟩⟩⟩)⟩)))) (hg := (fun _ _ _ _ _ => pg_name ok.nd rfl (.inl rfl)))))))
    · obtain ⟨x, rfl, hx⟩ := it i d' hd'
      obtain ⟨k1, k2, k3⟩ := key x hx
      exact q_and (q_call G_is_number (hr.mono (by decide)) (qa_cons (q_v 6 ⟨_, rfl, qa_nil ⟨rfl, ⟨_, rfl, Low.h, ⟨_, rfl, fun hb => q_and (q_cv (c_neI (q_v 6 ⟨_, rfl, ⟨_, rfl, q_int ⟨_, rfl, ⟨_, rfl, fun hb => q_one (q_chain op_le op_le (by with_unfolding_all rfl) (q_neg (q_gint tGREATEST ⟨_, rfl⟩ ⟨_, rfl, ⟨_, rfl, q_v 6 ⟨_, rfl, ⟨_, rfl, fun hc => q_gint tGREATEST ⟨_, rfl⟩ ⟨_, rfl, ⟨rfl, _, rfl, congrArg _ k3⟩⟩, fun hc => absurd (hc.symm.trans k2) (by decide)⟩⟩⟩⟩))), fun hb => absurd (hb.symm.trans k1) (by decide)⟩⟩⟩⟩))), fun hb => nomatch hb⟩⟩⟩⟩)))
    · show some acc = _
      cases hacc with
      | cons h1 t1 =>
        cases t1 with
        | cons h2 t2 =>
          cases t2
          rw [h1, h2]
          rfl
end
end PF


/-! D2 -/
namespace PF
open PySem PySem.Spec PyProof.Rows L2 QL PR
theorem door_at {ds : List Door} {e : Pass} (he : Pas ds e) : atI (ds.map eDo) e.1 = some (eDo (ds.getD e.1.toNat (0, 1, 0, 1))) := by
  obtain ⟨⟨h1, h2⟩, _⟩ := he
  have e1 : ((e.1.toNat : Nat) : Int) = e.1 := by omega
  have hl : e.1.toNat < ds.length := by omega
  have h := atI_nat (xs := ds.map eDo) (j := e.1.toNat) (v := eDo (ds.getD e.1.toNat (0, 1, 0, 1))) (by
    rw [List.getElem?_map, List.getD_eq_getElem?_getD, List.getElem?_eq_getElem hl]
    rfl)
  rw [e1] at h
  exact h
theorem gate_dok {rooms : Int} {ds : List Door} {e : Pass} (hs : Hs rooms ds) (he : Pas ds e) : DOk rooms (gate ds e) := by
  obtain ⟨⟨h1, h2⟩, _⟩ := he
  have hl : e.1.toNat < ds.length := by omega
  have e2 : ds.getD e.1.toNat (0, 1, 0, 1) = ds[e.1.toNat] := by
    rw [List.getD_eq_getElem?_getD, List.getElem?_eq_getElem hl]
    rfl
  have h := hs.dr _ (List.getElem_mem hl)
  unfold gate
  rw [e2]
  split
  · exact h
  · exact ⟨h.far, h.near, h.two, h.one⟩
theorem Hs.nz {rooms : Int} {ds : List Door} (hs : Hs rooms ds) : NZ ds := fun d hd => ⟨(hs.dr d hd).one.1, (hs.dr d hd).two.1⟩
theorem path_rooms {rooms : Int} {ds : List Door} (hs : Hs rooms ds) : ∀ {es : List Pass} {r r' : Int}, 0 ≤ r ∧ r < rooms → Path ds r es r' → 0 ≤ r' ∧ r' < rooms
  | [], _, _, h, q => by
    cases q
    exact h
  | e :: es, _, _, h, q => path_rooms hs (es := es) (gate_dok hs q.1).far q.2.2
theorem trues {α : Type} {xs : List α} {acc : List D} (h : Paired (fun _ y => y = PyData.bool true) xs acc) : acc = (List.replicate xs.length true).map PyData.bool := by
  induction h with
  | nil => rfl
  | cons q r ih =>
    rw [q, ih]
    rfl
theorem trues_all (n : Nat) : (List.replicate n true).all id = true := by
  rw [List.all_eq_true]
  intro b hb
  exact (List.mem_replicate.mp hb).2
theorem smul {i j : Int} (h : -6 ≤ i ∧ i ≤ 6) : CMul i j := .inl (by omega)
theorem smul' {i j : Int} (h : -6 ≤ j ∧ j ≤ 6) : CMul i j := .inr (by omega)
theorem sdiv {i j : Int} (h0 : j ≠ 0) (h : -6 ≤ j ∧ j ≤ 6) : CDivN i j := ⟨h0, by omega⟩
section
variable {P : Program} {w : World} {K : PySem.W.Frag} {mg : Str → Option Value} {base : Heap} {C : Addr}
/-! ### are_numbers -/
abbrev s_are_numbers : Stmt := topS 14
theorem sc_are_numbers : FnScope ["value", "item"] ["value"] (defScope s_are_numbers) := ⟨rfl, rfl, rfl, by decide +kernel, rfl, by decide +kernel, by decide +kernel⟩
def sp_are_numbers : Spc := fun ν as k => ∃ ns : List Int, as = [.d (eIs ns)] ∧ ns.length ≤ 1000 ∧ k ν (.d (.bool true))
theorem ok_are_numbers (A : At K mg "are_numbers" s_are_numbers) (B : Bi mg) (T : Tx K mg C) (HF : HouseF K C) (G_is_number : FnG P w K mg base C 1 "is_number" ["value"] sp_is_number) : FnG P w K mg base C 2 "are_numbers" ["value"] sp_are_numbers := by
  refine def_g (lev := 1) A sc_are_numbers (fun _ _ _ _ _ _ us hl => match us, hl with | [_], _ => rfl) (fun ν as k h => ?_) fun f cdv A outer s H E st hr W hW ok ν as k h => ?_
  · obtain ⟨ns, rfl, hn, hk⟩ := h
    rfl
  · obtain ⟨ns, rfl, hn, hk⟩ := h
    subst hW
    refine r_one (s_ret (q_and (q_isTup B.isinstance B.tuple (q_v 0 ⟨_, rfl, ⟨_, rfl, rfl, ⟨_, rfl, fun hb => q_one (q_all ok B.all (q_lc ok (qc1 1 (fun _ y => y = .bool true) ok (qi_tup (q_v 0 ⟨_, rfl, ⟨_, rfl, ⟨trivial, by simpa using hn, fun i d hd gh s H C cl fp => ?_, fun acc hacc p => ⟨_, congrArg some (trues hacc), ⟨rfl, ?_⟩⟩⟩⟩⟩)) (hg := (fun _ _ _ _ _ => pg_name ok.nd rfl (.inl rfl)))))), fun hb => nomatch hb⟩⟩⟩))))
    · obtain ⟨x, _, rfl⟩ := List.mem_map.mp (List.mem_of_getElem? hd)
      exact q_call G_is_number (hr.mono (by decide)) (qa_cons (q_v 1 ⟨_, rfl, qa_nil ⟨rfl, ⟨_, rfl, Low.h, ⟨rfl, _, rfl, rfl⟩⟩⟩⟩))
    · rw [trues_all]
      exact hk
/-! ### are_doors -/
abbrev s_are_doors : Stmt := topS 21
theorem sc_are_doors : FnScope ["value", "rooms", "door"] ["value", "rooms"] (defScope s_are_doors) := ⟨rfl, rfl, rfl, by decide +kernel, rfl, by decide +kernel, by decide +kernel⟩
def sp_are_doors : Spc := fun ν as k => ∃ ds rooms, as = [.d (eDs ds), .d (eI rooms)] ∧ Hs rooms ds ∧ k ν (.d (.bool true))
theorem ok_are_doors (A : At K mg "are_doors" s_are_doors) (B : Bi mg) (T : Tx K mg C) (HF : HouseF K C) (G_is_door : FnG P w K mg base C 3 "is_door" ["value", "rooms"] sp_is_door) : FnG P w K mg base C 4 "are_doors" ["value", "rooms"] sp_are_doors := by
  refine def_g (lev := 3) A sc_are_doors (fun _ _ _ _ _ _ us hl => match us, hl with | [_, _], _ => rfl) (fun ν as k h => ?_) fun f cdv A outer s H E st hr W hW ok ν as k h => ?_
  · obtain ⟨ds, rooms, rfl, hs, hk⟩ := h
    rfl
  · obtain ⟨ds, rooms, rfl, hs, hk⟩ := h
    subst hW
    obtain ⟨t, tMOST_DOORS⟩ := T.MOST_DOORS
    refine r_cons (s_ifF (qt_w (qw_orF (qt_notF (qt_v (q_isTup B.isinstance B.tuple (q_v 0 ⟨_, rfl, ⟨_, rfl, rfl, ⟨_, rfl, ⟨(by first | rfl | (simp; done) | assumption), qw_or1 (qt_cv (c_gt (q_len B.len (q_v 0 ⟨_, rfl, ⟨_, rfl, ⟨_, rfl, q_gint tMOST_DOORS ⟨_, rfl⟩ ⟨_, rfl, ⟨_, rfl, ⟨?_, ?_⟩⟩⟩⟩⟩⟩))))⟩⟩⟩⟩)))))))
    · have := hs.len
      rw [List.length_map]
      exact decide_eq_false (by omega)
    refine r_one (s_ret (q_all ok B.all (q_lc ok (qc1 2 (fun _ y => y = .bool true) ok (qi_tup (q_v 0 ⟨_, rfl, ⟨_, rfl, ⟨trivial, ?_, fun i d hd gh s H C cl fp => ?_, fun acc hacc p => ⟨_, congrArg some (trues hacc), ⟨rfl, ?_⟩⟩⟩⟩⟩)) (hg := (fun _ _ _ _ _ => pg_name ok.nd rfl (.inl rfl)))))))
    · have := hs.len
      rw [List.length_map]
      omega
    · obtain ⟨x, hx, rfl⟩ := List.mem_map.mp (List.mem_of_getElem? hd)
      exact q_call G_is_door (hr.mono (by decide)) (qa_cons (q_v 2 ⟨_, rfl, qa_cons (q_v 1 ⟨_, rfl, qa_nil ⟨rfl, ⟨_, _, rfl, hs.dr x hx, ⟨rfl, _, rfl, rfl⟩⟩⟩⟩)⟩))
    · rw [trues_all]
      exact hk
/-! ### need_house -/
abbrev s_need_house : Stmt := topS 24
theorem sc_need_house : FnScope ["house"] ["house"] (defScope s_need_house) := ⟨rfl, rfl, rfl, by decide +kernel, rfl, by decide +kernel, by decide +kernel⟩
def sp_need_house : Spc := fun ν as k => ∃ rooms ds, as = [.h rooms (eDs ds)] ∧ k ν (.d .none)
theorem ok_need_house (A : At K mg "need_house" s_need_house) (B : Bi mg) (T : Tx K mg C) (HF : HouseF K C) : FnG P w K mg base C 1 "need_house" ["house"] sp_need_house := by
  refine def_g (lev := 0) A sc_need_house (fun _ _ _ _ _ _ us hl => match us, hl with | [_], _ => rfl) (fun ν as k h => ?_) fun f cdv A outer s H E st hr W hW ok ν as k h => ?_
  · obtain ⟨rooms, ds, rfl, hk⟩ := h
    rfl
  · obtain ⟨rooms, ds, rfl, hk⟩ := h
    subst hW
    refine r_one (s_ifF (qt_notF (qt_v (q_isH HF B.isinstance T.House (q_v 0 ⟨_, rfl, ⟨_, _, rfl, ⟨_, rfl, ⟨rfl, hk⟩⟩⟩⟩)))))
/-! ### is_pass -/
abbrev s_is_pass : Stmt := topS 25
theorem sc_is_pass : FnScope ["house", "value"] ["house", "value"] (defScope s_is_pass) := ⟨rfl, rfl, rfl, by decide +kernel, rfl, by decide +kernel, by decide +kernel⟩
def sp_is_pass : Spc := fun ν as k => ∃ rooms ds e, as = [.h rooms (eDs ds), .d (eP e)] ∧ Pas ds e ∧ k ν (.d (.bool true))
theorem ok_is_pass (A : At K mg "is_pass" s_is_pass) (B : Bi mg) (T : Tx K mg C) (HF : HouseF K C) (G_is_below : FnG P w K mg base C 2 "is_below" ["value", "size"] sp_is_below) : FnG P w K mg base C 3 "is_pass" ["house", "value"] sp_is_pass := by
  refine def_g (lev := 2) A sc_is_pass (fun _ _ _ _ _ _ us hl => match us, hl with | [_, _], _ => rfl) (fun ν as k h => ?_) fun f cdv A outer s H E st hr W hW ok ν as k h => ?_
  · obtain ⟨rooms, ds, e, rfl, he, hk⟩ := h
    rfl
  · obtain ⟨rooms, ds, e, rfl, he, hk⟩ := h
    subst hW
    refine r_cons (s_ifF (qt_w (qw_orF (qt_notF (qt_v (q_isTup B.isinstance B.tuple (q_v 1 ⟨_, rfl, ⟨_, rfl, rfl, ⟨_, rfl, ⟨(by first | rfl | (simp; done) | assumption), qw_or1 (qt_cv (c_neI (q_len B.len (q_v 1 ⟨_, rfl, ⟨_, rfl, ⟨_, rfl, q_int ⟨_, rfl, ⟨_, rfl, ⟨(by first | rfl | (simp; done) | assumption), ?_⟩⟩⟩⟩⟩⟩))))⟩⟩⟩⟩)))))))
    refine r_one (s_ret (q_and (q_call G_is_below (hr.mono (by decide)) (qa_cons (q_ix (q_v 1 ⟨_, rfl, ⟨_, rfl, q_int ⟨_, _, rfl, rfl, qa_cons (q_len B.len (q_doors HF (q_v 0 ⟨_, rfl, ⟨_, _, rfl, ⟨_, rfl, qa_nil ⟨rfl, ⟨_, _, rfl, ⟨_, rfl, fun hb => q_one (q_call G_is_below (hr.mono (by decide)) (qa_cons (q_ix (q_v 1 ⟨_, rfl, ⟨_, rfl, q_int ⟨_, _, rfl, rfl, qa_cons (q_int (qa_nil ⟨rfl, ⟨_, _, rfl, ⟨rfl, ?_⟩⟩⟩))⟩⟩⟩)))), fun hb => ⟨rfl, ?_⟩⟩⟩⟩⟩⟩⟩)))⟩⟩⟩))))))
    · obtain ⟨_, h | h⟩ := he
      · rw [h]
        exact hk
      · rw [h]
        exact hk
    · obtain ⟨⟨h1, h2⟩, _⟩ := he
      rw [List.length_map] at hb
      simp [h1, h2] at hb
/-! ### gate_of -/
abbrev s_gate_of : Stmt := topS 26
theorem sc_gate_of : FnScope ["house", "step", "near", "first", "far", "second"] ["house", "step"] (defScope s_gate_of) := ⟨rfl, rfl, rfl, by decide +kernel, rfl, by decide +kernel, by decide +kernel⟩
def sp_gate_of : Spc := fun ν as k => ∃ rooms ds e, as = [.h rooms (eDs ds), .d (eP e)] ∧ Pas ds e ∧ k ν (.d (eDo (gate ds e)))
theorem ok_gate_of (A : At K mg "gate_of" s_gate_of) (B : Bi mg) (T : Tx K mg C) (HF : HouseF K C) : FnG P w K mg base C 1 "gate_of" ["house", "step"] sp_gate_of := by
  refine def_g (lev := 0) A sc_gate_of (fun _ _ _ _ _ _ us hl => match us, hl with | [_, _], _ => rfl) (fun ν as k h => ?_) fun f cdv A outer s H E st hr W hW ok ν as k h => ?_
  · obtain ⟨rooms, ds, e, rfl, he, hk⟩ := h
    rfl
  · obtain ⟨rooms, ds, e, rfl, he, hk⟩ := h
    subst hW
    refine r_cons (s_tup [2, 3, 4, 5] ok (pgs_cons (pg_name (i := 2) ok.nd rfl (.inl rfl)) (pgs_cons (pg_name (i := 3) ok.nd rfl (.inl rfl)) (pgs_cons (pg_name (i := 4) ok.nd rfl (.inl rfl)) (pgs_cons (pg_name (i := 5) ok.nd rfl (.inl rfl)) (pgs_nil))))) (q_ix (q_doors HF (q_v 0 ⟨_, rfl, ⟨_, _, rfl, ⟨_, rfl, q_ix (q_v 1 ⟨_, rfl, ⟨_, rfl, q_int ⟨_, _, rfl, rfl, ⟨_, _, rfl, door_at he, ⟨_, rfl, rfl, ?_⟩⟩⟩⟩⟩)⟩⟩⟩))))
    refine r_one (s_ret (q_ife (qt_cv (c_eqI (q_ix (q_v 1 ⟨_, rfl, ⟨_, rfl, q_int ⟨_, _, rfl, rfl, ⟨_, rfl, q_int ⟨_, rfl, ⟨_, rfl, ⟨fun hb => q_tup (qa_cons (q_v 2 ⟨_, rfl, qa_cons (q_v 3 ⟨_, rfl, qa_cons (q_v 4 ⟨_, rfl, qa_cons (q_v 5 ⟨_, rfl, qa_nil ⟨_, rfl, by simp, ⟨rfl, ?_⟩⟩⟩)⟩)⟩)⟩)), fun hb => q_tup (qa_cons (q_v 4 ⟨_, rfl, qa_cons (q_v 5 ⟨_, rfl, qa_cons (q_v 2 ⟨_, rfl, qa_cons (q_v 3 ⟨_, rfl, qa_nil ⟨_, rfl, by simp, ⟨rfl, ?_⟩⟩⟩)⟩)⟩)⟩))⟩⟩⟩⟩⟩⟩⟩))))))
    · have h0 : e.2 = 0 := of_decide_eq_true hb
      have e1 : gate ds e = ds.getD e.1.toNat (0, 1, 0, 1) := by
        unfold gate
        rw [if_pos h0]
      rw [e1] at hk
      exact hk
    · have h0 : ¬ e.2 = 0 := of_decide_eq_false hb
      have e1 : gate ds e = ((ds.getD e.1.toNat (0, 1, 0, 1)).2.2.1, (ds.getD e.1.toNat (0, 1, 0, 1)).2.2.2, (ds.getD e.1.toNat (0, 1, 0, 1)).1, (ds.getD e.1.toNat (0, 1, 0, 1)).2.1) := by
        unfold gate
        rw [if_neg h0]
      rw [e1] at hk
      exact hk
end
end PF


/-! D3 -/
namespace PF
open PySem PySem.Spec PyProof.Rows L2 QL PR
theorem getMap {α : Type} {f : α → D} {xs : List α} {i : Nat} {d : D} (h : (xs.map f)[i]? = some d) : ∃ x, xs[i]? = some x ∧ d = f x := by
  rw [List.getElem?_map] at h
  obtain ⟨x, h1, h2⟩ := Option.map_eq_some_iff.mp h
  exact ⟨x, h1, h2.symm⟩
theorem drop_cons {α : Type} {xs : List α} {i : Nat} {x : α} (h : xs[i]? = some x) : xs.drop i = x :: xs.drop (i + 1) := by
  obtain ⟨h1, h2⟩ := List.getElem?_eq_some_iff.mp h
  rw [List.drop_eq_getElem_cons h1, h2]
theorem atI_lastD {α : Type} {f : α → D} {xs : List α} (h : xs ≠ []) (d : α) : atI (xs.map f) (-1) = some (f (xs.getLastD d)) := by
  obtain ⟨ys, y, rfl⟩ := List.eq_nil_or_concat xs |>.resolve_left h
  rw [List.concat_eq_append, List.map_append, List.map_cons, List.map_nil, atI_last]
  simp
theorem atI_headD {α : Type} {f : α → D} {xs : List α} (h : xs ≠ []) (d : α) : atI (xs.map f) 0 = some (f (xs.headD d)) := by
  cases xs with
  | nil => exact absurd rfl h
  | cons x xs => exact atI_nat (j := 0) rfl
theorem atI_at {α : Type} {f : α → D} {xs : List α} {i : Nat} {x : α} (h : xs[i]? = some x) : atI (xs.map f) (i : Int) = some (f x) := atI_nat (by rw [List.getElem?_map, h]; rfl)
theorem cut_last {α : Type} {f : α → D} {xs : List α} : QL.cutD (xs.map f) none (some (-1)) = xs.dropLast.map f := by
  unfold QL.cutD
  show ((xs.map f).drop 0).take (((-1 : Int) + ((xs.map f).length : Int)).toNat - 0) = _
  rw [List.drop_zero, List.length_map, List.dropLast_eq_take, List.map_take]
  congr 1
  omega
theorem cut_take {α : Type} {f : α → D} {xs : List α} {n : Nat} : QL.cutD (xs.map f) none (some (n : Int)) = (xs.take n).map f := by
  unfold QL.cutD
  show ((xs.map f).drop 0).take (HT.sIx _ _ (some (n : Int)) - 0) = _
  rw [HT.sIx_nat, List.drop_zero, List.length_map, List.map_take, Nat.sub_zero, List.take_eq_take_iff]
  simp
theorem cut_drop {α : Type} {f : α → D} {xs : List α} {n : Nat} : QL.cutD (xs.map f) (some (n : Int)) none = (xs.drop n).map f := by
  unfold QL.cutD
  show ((xs.map f).drop (HT.sIx _ _ (some (n : Int)))).take ((xs.map f).length - HT.sIx _ _ (some (n : Int))) = _
  rw [HT.sIx_nat, List.length_map]
  by_cases h : n ≤ xs.length
  · rw [Nat.min_eq_left h, List.map_drop, List.take_of_length_le (by simp)]
  · rw [Nat.min_eq_right (by omega), List.drop_eq_nil_of_le (as := List.map f xs) (by rw [List.length_map]; omega), List.drop_eq_nil_of_le (as := xs) (by omega)]
    simp
theorem cut_tail {α : Type} {f : α → D} {xs : List α} : QL.cutD (xs.map f) (some 1) none = xs.tail.map f := by
  have := cut_drop (f := f) (xs := xs) (n := 1)
  rw [List.drop_one] at this
  exact this
theorem pm {α : Type} {f g : α → D} (inj : ∀ x y, f x = f y → g x = g y) : ∀ {xs : List α} {acc : List D}, Paired (fun d y => ∃ x, d = f x ∧ y = g x) (xs.map f) acc → acc = xs.map g
  | [], _, h => by
    cases h
    rfl
  | x :: xs, _, h => by
    cases h with
    | cons q r =>
      obtain ⟨z, h1, h2⟩ := q
      rw [pm inj r, h2, ← inj x z h1]
      rfl
theorem eP_inj {a b : Pass} (h : eP a = eP b) : a = b := by
  unfold eP at h
  simp only [PyData.tuple.injEq, List.cons.injEq, PyData.int.injEq, and_true] at h
  exact Prod.ext h.1 h.2
theorem eI_inj {a b : Int} (h : eI a = eI b) : a = b := by
  simpa using h
theorem map_inj {α : Type} {f : α → D} (inj : ∀ x y, f x = f y → x = y) : ∀ {xs ys : List α}, xs.map f = ys.map f → xs = ys
  | [], [], _ => rfl
  | x :: xs, y :: ys, h => by
    rw [List.map_cons, List.map_cons, List.cons.injEq] at h
    rw [inj x y h.1, map_inj inj h.2]
  | [], _ :: _, h => by simp at h
  | _ :: _, [], h => by simp at h
theorem eW_inj {a b : Walk} (h : eW a = eW b) : a = b := by
  unfold eW at h
  simp only [PyData.tuple.injEq, List.cons.injEq, PyData.int.injEq, and_true] at h
  obtain ⟨h1, h2, h3⟩ := h
  cases a
  cases b
  simp only [Walk.mk.injEq]
  exact ⟨h1, map_inj (fun _ _ q => eI_inj q) h2, map_inj (fun _ _ q => eP_inj q) h3⟩
theorem eqv_low {d e : D} (hd : lowD 9 d = true) (he : lowD 9 e = true) {p : Prop} [Decidable p] (h : d = e ↔ p) : PyData.eqv d e = decide p := by
  cases hc : PyData.eqv d e with
  | true => exact (decide_eq_true (h.mp ((low_eq hd he).mp hc))).symm
  | false =>
    refine (decide_eq_false fun q => ?_).symm
    rw [(low_eq hd he).mpr (h.mpr q)] at hc
    cases hc
theorem eqv_P (a b : Pass) : PyData.eqv (eP a) (eP b) = decide (a = b) := eqv_low Low.h Low.h ⟨eP_inj, congrArg _⟩
end PF


/-! D4 -/
namespace PF
open PySem PySem.Spec PyProof.Rows L2 QL PR
theorem path_last {ds : List Door} {es : List Pass} {r r' : Int} (h : Path ds r es r') (hn : es ≠ []) : Pas ds (es.getLastD (0, 0)) ∧ r' = dst ds (es.getLastD (0, 0)) := by
  obtain ⟨ys, y, rfl⟩ := List.eq_nil_or_concat es |>.resolve_left hn
  rw [List.concat_eq_append] at h ⊢
  obtain ⟨_, h2, h3⟩ := h.snoc_inv
  have e : (ys ++ [y]).getLastD (0, 0) = y := by simp
  rw [e]
  exact ⟨h2, h3⟩
theorem fmod_zero {n b : Int} (hb : b ≠ 0) : (n - n.fdiv b * b = 0) ↔ n % b = 0 := by
  have e := Int.mul_fdiv_add_fmod n b
  have e2 : n - n.fdiv b * b = n.fmod b := by
    rw [Int.mul_comm] at e
    omega
  rw [e2]
  constructor
  · intro h
    exact Int.emod_eq_zero_of_dvd (Int.dvd_of_fmod_eq_zero h)
  · intro h
    exact Int.fmod_eq_zero_of_dvd (Int.dvd_of_emod_eq_zero h)
theorem fdiv_ex {n b : Int} (hb : b ≠ 0) (h : n % b = 0) : n.fdiv b = n / b := by
  obtain ⟨q, rfl⟩ := Int.dvd_of_emod_eq_zero h
  rw [Int.mul_fdiv_cancel_left _ hb, Int.mul_ediv_cancel_left _ hb]
section
variable {P : Program} {w : World} {K : PySem.W.Frag} {mg : Str → Option Value} {base : Heap} {C : Addr}
/-! ### are_steps -/
abbrev s_are_steps : Stmt := topS 28
theorem sc_are_steps : FnScope ["house", "room", "value", "here", "step"] ["house", "room", "value"] (defScope s_are_steps) := ⟨rfl, rfl, rfl, by decide +kernel, rfl, by decide +kernel, by decide +kernel⟩
def sp_are_steps : Spc := fun ν as k => ∃ rooms ds room es r', as = [.h rooms (eDs ds), .d (eI room), .d (ePs es)] ∧ Path ds room es r' ∧ k ν (.d (.bool true))
theorem ok_are_steps (A : At K mg "are_steps" s_are_steps) (B : Bi mg) (T : Tx K mg C) (HF : HouseF K C) (G_gate_of : FnG P w K mg base C 1 "gate_of" ["house", "step"] sp_gate_of) (G_is_pass : FnG P w K mg base C 3 "is_pass" ["house", "value"] sp_is_pass) : FnG P w K mg base C 4 "are_steps" ["house", "room", "value"] sp_are_steps := by
  refine def_g (lev := 3) A sc_are_steps (fun _ _ _ _ _ _ us hl => match us, hl with | [_, _, _], _ => rfl) (fun ν as k h => ?_) fun f cdv A outer s H E st hr W hW ok ν as k h => ?_
  · obtain ⟨rooms, ds, room, es, r', rfl, hp, hk⟩ := h
    rfl
  · obtain ⟨rooms, ds, room, es, r', rfl, hp, hk⟩ := h
    subst hW
    refine r_cons (s_ifF (qt_notF (qt_v (q_isTup B.isinstance B.tuple (q_v 2 ⟨_, rfl, ⟨_, rfl, rfl, ⟨_, rfl, ⟨(by first | rfl | (simp; done) | assumption), ?_⟩⟩⟩⟩)))))
    refine r_cons (s_set 3 ok (q_v 1 ⟨_, rfl, ⟨rfl, ?_⟩⟩))
    refine r_cons (s_for 4 ok (qi_tup (q_v 2 ⟨_, rfl, ⟨_, rfl, ⟨fun _ => trivial, fun i Γ => ∃ here x4, Path ds here (es.drop i) r' ∧ Γ = [some (.h rooms (eDs ds)), some (.d (eI room)), some (.d (ePs es)), some (.d (eI here)), x4], ⟨room, none, hp, rfl⟩, fun i d Γ hd iv gh => ?_, fun Γ iv => ?_⟩⟩⟩)))
    · obtain ⟨here, x4, hq, rfl⟩ := iv
      obtain ⟨e, he, rfl⟩ := getMap hd
      rw [drop_cons he] at hq
      obtain ⟨q1, q2, q3⟩ := hq
      refine r_cons (s_ifF (qt_w (qw_orF (qt_notF (qt_v (q_call G_is_pass (hr.mono (by decide)) (qa_cons (q_v 0 ⟨_, rfl, qa_cons (q_v 4 ⟨_, rfl, qa_nil ⟨rfl, ⟨_, _, _, rfl, q1, ⟨_, rfl, ⟨(by first | rfl | (simp; done) | assumption), qw_or1 (qt_cv (c_neI (q_ix (q_call G_gate_of (hr.mono (by decide)) (qa_cons (q_v 0 ⟨_, rfl, qa_cons (q_v 4 ⟨_, rfl, qa_nil ⟨rfl, ⟨_, _, _, rfl, q1, ⟨_, rfl, q_int ⟨_, _, rfl, rfl, ⟨_, rfl, q_v 3 ⟨_, rfl, ⟨_, rfl, ⟨_, rfl, ⟨?_, ?_⟩⟩⟩⟩⟩⟩⟩⟩⟩⟩)⟩))))))⟩⟩⟩⟩⟩)⟩))))))))
      · have q2' : (gate ds e).1 = here := q2
        rw [q2']
        simp
      refine r_one (s_set 3 (ok.push gh) (q_ix (q_call G_gate_of (hr.mono (by decide)) (qa_cons (q_v 0 ⟨_, rfl, qa_cons (q_v 4 ⟨_, rfl, qa_nil ⟨rfl, ⟨_, _, _, rfl, q1, ⟨_, rfl, q_int ⟨_, _, rfl, rfl, ⟨rfl, rfl, _, _, q3, rfl⟩⟩⟩⟩⟩⟩)⟩)))))
    · refine r_one (s_ret (q_bl ⟨rfl, hk⟩))
/-! ### is_walk_of -/
abbrev s_is_walk_of : Stmt := topS 29
theorem sc_is_walk_of : FnScope ["house", "value", "room", "pulls", "passes"] ["house", "value"] (defScope s_is_walk_of) := ⟨rfl, rfl, rfl, by decide +kernel, rfl, by decide +kernel, by decide +kernel⟩
def sp_is_walk_of : Spc := fun ν as k => ∃ rooms ds wk r, as = [.h rooms (eDs ds), .d (eW wk)] ∧ WOk ds wk r ∧ (0 ≤ wk.room ∧ wk.room < rooms) ∧ wk.passes.length ≤ 500 ∧ k ν (.d (.bool true))
theorem ok_is_walk_of (A : At K mg "is_walk_of" s_is_walk_of) (B : Bi mg) (T : Tx K mg C) (HF : HouseF K C) (G_are_numbers : FnG P w K mg base C 2 "are_numbers" ["value"] sp_are_numbers) (G_are_steps : FnG P w K mg base C 4 "are_steps" ["house", "room", "value"] sp_are_steps) (G_is_below : FnG P w K mg base C 2 "is_below" ["value", "size"] sp_is_below) : FnG P w K mg base C 5 "is_walk_of" ["house", "value"] sp_is_walk_of := by
  refine def_g (lev := 4) A sc_is_walk_of (fun _ _ _ _ _ _ us hl => match us, hl with | [_, _], _ => rfl) (fun ν as k h => ?_) fun f cdv A outer s H E st hr W hW ok ν as k h => ?_
  · obtain ⟨rooms, ds, wk, r, rfl, hw, hr0, hl, hk⟩ := h
    rfl
  · obtain ⟨rooms, ds, wk, r, rfl, hw, hr0, hl, hk⟩ := h
    subst hW
    refine r_cons (s_ifF (qt_w (qw_orF (qt_notF (qt_v (q_isTup B.isinstance B.tuple (q_v 1 ⟨_, rfl, ⟨_, rfl, rfl, ⟨_, rfl, ⟨(by first | rfl | (simp; done) | assumption), qw_orF (qt_cv (c_neI (q_len B.len (q_v 1 ⟨_, rfl, ⟨_, rfl, ⟨_, rfl, q_int ⟨_, rfl, ⟨_, rfl, ⟨(by first | rfl | (simp; done) | assumption), qw_or1 (qt_notF (qt_v (q_call G_is_below (hr.mono (by decide)) (qa_cons (q_ix (q_v 1 ⟨_, rfl, ⟨_, rfl, q_int ⟨_, _, rfl, rfl, qa_cons (q_rooms HF (q_v 0 ⟨_, rfl, ⟨_, _, rfl, qa_nil ⟨rfl, ⟨_, _, rfl, ⟨_, rfl, ⟨?_, ?_⟩⟩⟩⟩⟩⟩))⟩⟩⟩))))))⟩⟩⟩⟩⟩⟩))))⟩⟩⟩⟩)))))))
    · simp [hr0]
    refine r_cons (s_tup [2, 3, 4] ok (pgs_cons (pg_name (i := 2) ok.nd rfl (.inl rfl)) (pgs_cons (pg_name (i := 3) ok.nd rfl (.inl rfl)) (pgs_cons (pg_name (i := 4) ok.nd rfl (.inl rfl)) (pgs_nil)))) (q_v 1 ⟨_, rfl, ⟨_, rfl, rfl, ?_⟩⟩))
    refine r_one (s_ret (q_and (q_call G_are_numbers (hr.mono (by decide)) (qa_cons (q_v 3 ⟨_, rfl, qa_nil ⟨rfl, ⟨_, rfl, ?_, ⟨_, rfl, fun hb => q_and (q_call G_are_steps (hr.mono (by decide)) (qa_cons (q_v 0 ⟨_, rfl, qa_cons (q_v 2 ⟨_, rfl, qa_cons (q_v 4 ⟨_, rfl, qa_nil ⟨rfl, ⟨_, _, _, _, _, rfl, hw.path, ⟨_, rfl, fun hb => q_one (q_cv (c_eqI (q_len B.len (q_v 3 ⟨_, rfl, ⟨_, rfl, ⟨_, rfl, q_add (q_len B.len (q_v 4 ⟨_, rfl, ⟨_, rfl, ⟨_, rfl, q_int ⟨_, rfl, ⟨_, rfl, ⟨rfl, ?_⟩⟩⟩⟩⟩⟩))⟩⟩⟩)))), fun hb => nomatch hb⟩⟩⟩⟩)⟩)⟩))), fun hb => nomatch hb⟩⟩⟩⟩)))))
    · have := hw.len
      omega
    · have e : decide (((wk.pulls.map PyData.int).length : Int) = ((wk.passes.map eP).length : Int) + 1) = true := by
        rw [List.length_map, List.length_map, hw.len]
        simp
      rw [e]
      exact hk
/-! ### need_walk -/
abbrev s_need_walk : Stmt := topS 30
theorem sc_need_walk : FnScope ["house", "walk"] ["house", "walk"] (defScope s_need_walk) := ⟨rfl, rfl, rfl, by decide +kernel, rfl, by decide +kernel, by decide +kernel⟩
def sp_need_walk : Spc := fun ν as k => ∃ rooms ds wk r, as = [.h rooms (eDs ds), .d (eW wk)] ∧ WOk ds wk r ∧ (0 ≤ wk.room ∧ wk.room < rooms) ∧ wk.passes.length ≤ 500 ∧ k ν (.d .none)
theorem ok_need_walk (A : At K mg "need_walk" s_need_walk) (B : Bi mg) (T : Tx K mg C) (HF : HouseF K C) (G_is_walk_of : FnG P w K mg base C 5 "is_walk_of" ["house", "value"] sp_is_walk_of) : FnG P w K mg base C 6 "need_walk" ["house", "walk"] sp_need_walk := by
  refine def_g (lev := 5) A sc_need_walk (fun _ _ _ _ _ _ us hl => match us, hl with | [_, _], _ => rfl) (fun ν as k h => ?_) fun f cdv A outer s H E st hr W hW ok ν as k h => ?_
  · obtain ⟨rooms, ds, wk, r, rfl, hw, hr0, hl, hk⟩ := h
    rfl
  · obtain ⟨rooms, ds, wk, r, rfl, hw, hr0, hl, hk⟩ := h
    subst hW
    refine r_one (s_ifF (qt_notF (qt_v (q_call G_is_walk_of (hr.mono (by decide)) (qa_cons (q_v 0 ⟨_, rfl, qa_cons (q_v 1 ⟨_, rfl, qa_nil ⟨rfl, ⟨_, _, _, _, rfl, hw, hr0, hl, ⟨_, rfl, ⟨rfl, hk⟩⟩⟩⟩⟩)⟩))))))
/-! ### end_for -/
abbrev s_end_for : Stmt := topS 31
theorem sc_end_for : FnScope ["house", "walk"] ["house", "walk"] (defScope s_end_for) := ⟨rfl, rfl, rfl, by decide +kernel, rfl, by decide +kernel, by decide +kernel⟩
def sp_end_for : Spc := fun ν as k => ∃ rooms ds wk r, as = [.h rooms (eDs ds), .d (eW wk)] ∧ WOk ds wk r ∧ k ν (.d (eI r))
theorem ok_end_for (A : At K mg "end_for" s_end_for) (B : Bi mg) (T : Tx K mg C) (HF : HouseF K C) (G_gate_of : FnG P w K mg base C 1 "gate_of" ["house", "step"] sp_gate_of) : FnG P w K mg base C 2 "end_for" ["house", "walk"] sp_end_for := by
  refine def_g (lev := 1) A sc_end_for (fun _ _ _ _ _ _ us hl => match us, hl with | [_, _], _ => rfl) (fun ν as k h => ?_) fun f cdv A outer s H E st hr W hW ok ν as k h => ?_
  · obtain ⟨rooms, ds, wk, r, rfl, hw, hk⟩ := h
    rfl
  · obtain ⟨rooms, ds, wk, r, rfl, hw, hk⟩ := h
    subst hW
    refine r_one (s_ret (q_ife (qt_cv (c_neP (q_ix (q_v 1 ⟨_, rfl, ⟨_, rfl, q_int ⟨_, _, rfl, rfl, ⟨_, rfl, Low.h, q_tup (qa_nil ⟨_, rfl, by simp, ⟨_, rfl, Low.h, ⟨_, rfl, ⟨fun hb => q_ix (q_call G_gate_of (hr.mono (by decide)) (qa_cons (q_v 0 ⟨_, rfl, qa_cons (q_ix (q_ix (q_v 1 ⟨_, rfl, ⟨_, rfl, q_int ⟨_, _, rfl, rfl, ⟨_, rfl, q_neg (q_int ⟨_, rfl, ⟨_, _, rfl, atI_lastD (d := (0, 0)) ?_, qa_nil ⟨rfl, ⟨_, _, _, rfl, ?_, ⟨_, rfl, q_int ⟨_, _, rfl, rfl, ⟨rfl, ?_⟩⟩⟩⟩⟩⟩⟩)⟩⟩⟩⟩)))⟩))), fun hb => q_ix (q_v 1 ⟨_, rfl, ⟨_, rfl, q_int ⟨_, _, rfl, rfl, ⟨rfl, ?_⟩⟩⟩⟩)⟩⟩⟩⟩)⟩⟩⟩⟩)) ok))))
    · intro h
      rw [h] at hb
      exact absurd hb (by decide)
    · refine (path_last hw.path ?_).1
      intro h
      rw [h] at hb
      exact absurd hb (by decide)
    · have h0 : wk.passes ≠ [] := fun h => by
        rw [h] at hb
        exact absurd hb (by decide)
      have e := (path_last hw.path h0).2
      rw [e] at hk
      exact hk
    · have h0 : wk.passes = [] := by
        cases hp : wk.passes with
        | nil => rfl
        | cons e es =>
          rw [hp] at hb
          exact absurd hb (by simp [PyData.eqv, PyData.eqvAll])
      have := hw.path
      rw [h0] at this
      have e : wk.room = r := this
      rw [e]
      exact hk
/-! ### need_home -/
abbrev s_need_home : Stmt := topS 32
theorem sc_need_home : FnScope ["house", "walk"] ["house", "walk"] (defScope s_need_home) := ⟨rfl, rfl, rfl, by decide +kernel, rfl, by decide +kernel, by decide +kernel⟩
def sp_need_home : Spc := fun ν as k => ∃ rooms ds wk, as = [.h rooms (eDs ds), .d (eW wk)] ∧ WOk ds wk wk.room ∧ (0 ≤ wk.room ∧ wk.room < rooms) ∧ wk.passes.length ≤ 500 ∧ k ν (.d .none)
theorem ok_need_home (A : At K mg "need_home" s_need_home) (B : Bi mg) (T : Tx K mg C) (HF : HouseF K C) (G_end_for : FnG P w K mg base C 2 "end_for" ["house", "walk"] sp_end_for) (G_need_walk : FnG P w K mg base C 6 "need_walk" ["house", "walk"] sp_need_walk) : FnG P w K mg base C 7 "need_home" ["house", "walk"] sp_need_home := by
  refine def_g (lev := 6) A sc_need_home (fun _ _ _ _ _ _ us hl => match us, hl with | [_, _], _ => rfl) (fun ν as k h => ?_) fun f cdv A outer s H E st hr W hW ok ν as k h => ?_
  · obtain ⟨rooms, ds, wk, rfl, hw, hr0, hl, hk⟩ := h
    rfl
  · obtain ⟨rooms, ds, wk, rfl, hw, hr0, hl, hk⟩ := h
    subst hW
    refine r_cons (s_expr (q_call G_need_walk (hr.mono (by decide)) (qa_cons (q_v 0 ⟨_, rfl, qa_cons (q_v 1 ⟨_, rfl, qa_nil ⟨rfl, ⟨_, _, _, _, rfl, hw, hr0, hl, ?_⟩⟩⟩)⟩))))
    refine r_one (s_ifF (qt_cv (c_neI (q_call G_end_for (hr.mono (by decide)) (qa_cons (q_v 0 ⟨_, rfl, qa_cons (q_v 1 ⟨_, rfl, qa_nil ⟨rfl, ⟨_, _, _, _, rfl, hw, ⟨_, rfl, q_ix (q_v 1 ⟨_, rfl, ⟨_, rfl, q_int ⟨_, _, rfl, rfl, ⟨_, rfl, ⟨_, rfl, ⟨(by first | rfl | (simp; done) | assumption), hk⟩⟩⟩⟩⟩⟩)⟩⟩⟩⟩)⟩))))))
/-! ### join_of -/
abbrev s_join_of : Stmt := topS 33
theorem sc_join_of : FnScope ["one", "other", "middle"] ["one", "other"] (defScope s_join_of) := ⟨rfl, rfl, rfl, by decide +kernel, rfl, by decide +kernel, by decide +kernel⟩
def sp_join_of : Spc := fun ν as k => ∃ a b : Walk, as = [.d (eW a), .d (eW b)] ∧ (a.pulls.length = a.passes.length + 1 ∧ b.pulls.length = b.passes.length + 1) ∧ (a.passes.length ≤ 200 ∧ b.passes.length ≤ 200) ∧ k ν (.d (eW (a.join b)))
theorem ok_join_of (A : At K mg "join_of" s_join_of) (B : Bi mg) (T : Tx K mg C) (HF : HouseF K C) : FnG P w K mg base C 1 "join_of" ["one", "other"] sp_join_of := by
  refine def_g (lev := 0) A sc_join_of (fun _ _ _ _ _ _ us hl => match us, hl with | [_, _], _ => rfl) (fun ν as k h => ?_) fun f cdv A outer s H E st hr W hW ok ν as k h => ?_
  · obtain ⟨a, b, rfl, hab, hl, hk⟩ := h
    rfl
  · obtain ⟨a, b, rfl, hab, hl, hk⟩ := h
    subst hW
    have ha : a.pulls ≠ [] := ne_nil_of hab.1
    have hb : b.pulls ≠ [] := ne_nil_of hab.2
    refine r_cons (s_set 2 ok (q_add (q_ix (q_ix (q_v 0 ⟨_, rfl, ⟨_, rfl, q_int ⟨_, _, rfl, rfl, ⟨_, rfl, q_neg (q_int ⟨_, rfl, ⟨_, _, rfl, atI_lastD ha 0, ⟨_, rfl, q_ix (q_ix (q_v 1 ⟨_, rfl, ⟨_, rfl, q_int ⟨_, _, rfl, rfl, ⟨_, rfl, q_int ⟨_, _, rfl, atI_headD hb 0, ⟨_, rfl, ⟨rfl, ?_⟩⟩⟩⟩⟩⟩⟩))⟩⟩⟩)⟩⟩⟩⟩)))))
    refine r_one (s_ret (q_tup (qa_cons (q_ix (q_v 0 ⟨_, rfl, ⟨_, rfl, q_int ⟨_, _, rfl, rfl, qa_cons (q_cat (q_cat (q_sl01 (q_ix (q_v 0 ⟨_, rfl, ⟨_, rfl, q_int ⟨_, _, rfl, rfl, ⟨_, rfl, q_neg (q_int ⟨_, rfl, ⟨_, rfl, ⟨_, rfl, q_tup (qa_cons (q_v 2 ⟨_, rfl, qa_nil ⟨_, rfl, by simp, ⟨_, rfl, ?_, ⟨_, rfl, q_sl10 (q_ix (q_v 1 ⟨_, rfl, ⟨_, rfl, q_int ⟨_, _, rfl, rfl, ⟨_, rfl, q_int ⟨_, rfl, ⟨_, rfl, ?_, qa_cons (q_cat (q_ix (q_v 0 ⟨_, rfl, ⟨_, rfl, q_int ⟨_, _, rfl, rfl, ⟨_, rfl, q_ix (q_v 1 ⟨_, rfl, ⟨_, rfl, q_int ⟨_, _, rfl, rfl, ⟨_, rfl, ?_, qa_nil ⟨_, rfl, by simp, ⟨rfl, ?_⟩⟩⟩⟩⟩⟩)⟩⟩⟩⟩)))⟩⟩⟩⟩⟩⟩))⟩⟩⟩⟩))⟩⟩⟩)⟩⟩⟩⟩)))))⟩⟩⟩)))))
    · rw [cut_last, List.length_map, List.length_dropLast]
      simp only [List.map_cons, List.map_nil, List.length_cons, List.length_nil]
      omega
    · rw [cut_last, cut_tail]
      simp only [List.length_append, List.length_map, List.length_dropLast, List.length_tail, List.length_cons, List.length_nil]
      omega
    · rw [List.length_map, List.length_map]
      omega
    · have e : eW (a.join b) = .tuple [.int a.room, .tuple (QL.cutD (a.pulls.map PyData.int) none (some (-1)) ++ [.int (a.pulls.getLastD 0 + b.pulls.headD 0)] ++ QL.cutD (b.pulls.map PyData.int) (some 1) none), .tuple (a.passes.map eP ++ b.passes.map eP)] := by
        rw [cut_last, cut_tail]
        unfold eW Walk.join joinP
        simp
      rw [e] at hk
      exact hk
/-! ### back_of -/
abbrev s_back_of : Stmt := topS 34
theorem sc_back_of : FnScope ["house", "walk", "pulls", "passes", "item", "at", "side"] ["house", "walk"] (defScope s_back_of) := ⟨rfl, rfl, rfl, by decide +kernel, rfl, by decide +kernel, by decide +kernel⟩
def sp_back_of : Spc := fun ν as k => ∃ rooms ds wk r, as = [.h rooms (eDs ds), .d (eW wk)] ∧ WOk ds wk r ∧ wk.passes.length ≤ 200 ∧ k ν (.d (eW (wk.bk r)))
theorem ok_back_of (A : At K mg "back_of" s_back_of) (B : Bi mg) (T : Tx K mg C) (HF : HouseF K C) (G_end_for : FnG P w K mg base C 2 "end_for" ["house", "walk"] sp_end_for) : FnG P w K mg base C 3 "back_of" ["house", "walk"] sp_back_of := by
  refine def_g (lev := 2) A sc_back_of (fun _ _ _ _ _ _ us hl => match us, hl with | [_, _], _ => rfl) (fun ν as k h => ?_) fun f cdv A outer s H E st hr W hW ok ν as k h => ?_
  · obtain ⟨rooms, ds, wk, r, rfl, hw, hl, hk⟩ := h
    rfl
  · obtain ⟨rooms, ds, wk, r, rfl, hw, hl, hk⟩ := h
    subst hW
    refine r_cons (s_set 2 ok (q_toTup B.tuple (q_lc ok (qc1 4 (fun d y => ∃ x : Int, d = .int x ∧ y = .int (0 - x)) ok (qi_rev B.reversed (q_ix (q_v 1 ⟨_, rfl, ⟨_, rfl, q_int ⟨_, _, rfl, rfl, ⟨_, rfl, ⟨trivial, ?_, fun i d hd gh s H C cl fp => ?_, fun acc hacc p => ⟨_, rfl, ⟨rfl, ?_⟩⟩⟩⟩⟩⟩⟩))) (hg := (fun _ _ _ _ _ => pg_name ok.nd rfl (.inl rfl)))))))
    · have := hw.len
      rw [List.length_reverse, List.length_map]
      omega
    · rw [← List.map_reverse] at hd
      obtain ⟨x, hx, rfl⟩ := getMap hd
      exact q_sub (q_int ⟨_, rfl, q_v 4 ⟨_, rfl, ⟨_, rfl, ⟨rfl, _, rfl, _, rfl, rfl⟩⟩⟩⟩)
    rw [← List.map_reverse] at hacc
    have hacc := pm (f := PyData.int) (g := fun x => .int (0 - x)) (fun _ _ q => by rw [eI_inj q]) hacc
    subst hacc
    refine r_cons (s_set 3 ok (q_toTup B.tuple (q_lc ok (qcN [5, 6] (own := [("at", 5), ("side", 6)]) (fun d y => ∃ x : Pass, d = eP x ∧ y = eP (inv x)) ok rfl (qi_rev B.reversed (q_ix (q_v 1 ⟨_, rfl, ⟨_, rfl, q_int ⟨_, _, rfl, rfl, ⟨_, rfl, ⟨trivial, ?_, fun i d hd => ?_, fun acc hacc p => ⟨_, rfl, ⟨rfl, ?_⟩⟩⟩⟩⟩⟩⟩))) (hg := (fun _ _ _ _ _ => pgs_cons (pg_name (i := 5) ok.nd rfl (.inl rfl)) (pgs_cons (pg_name (i := 6) ok.nd rfl (.inl rfl)) (pgs_nil))))))))
    · rw [List.length_reverse, List.length_map]
      omega
    · rw [← List.map_reverse] at hd
      obtain ⟨x, hx, rfl⟩ := getMap hd
      exact ⟨_, rfl, rfl, fun gh s H C cl fp => q_tup (qa_cons (q_v 5 ⟨_, rfl, qa_cons (q_sub (q_int ⟨_, rfl, q_v 6 ⟨_, rfl, ⟨_, rfl, qa_nil ⟨_, rfl, by simp, ⟨rfl, _, rfl, _, rfl, rfl⟩⟩⟩⟩⟩))⟩))⟩
    rw [← List.map_reverse] at hacc
    have hacc := pm (f := eP) (g := fun x => eP (inv x)) (fun _ _ q => by rw [eP_inj q]) hacc
    subst hacc
    refine r_one (s_ret (q_tup (qa_cons (q_call G_end_for (hr.mono (by decide)) (qa_cons (q_v 0 ⟨_, rfl, qa_cons (q_v 1 ⟨_, rfl, qa_nil ⟨rfl, ⟨_, _, _, _, rfl, hw, qa_cons (q_v 2 ⟨_, rfl, qa_cons (q_v 3 ⟨_, rfl, qa_nil ⟨_, rfl, by simp, ⟨rfl, ?_⟩⟩⟩)⟩)⟩⟩⟩)⟩))))))
    have e : eW (wk.bk r) = .tuple [.int r, .tuple (wk.pulls.reverse.map fun x => .int (0 - x)), .tuple (wk.passes.reverse.map fun x => eP (inv x))] := by
      show PyData.tuple [.int r, .tuple ((wk.pulls.reverse.map fun i => 0 - i).map PyData.int), .tuple ((wk.passes.reverse.map inv).map eP)] = _
      rw [List.map_map, List.map_map]
      rfl
    rw [e] at hk
    exact hk
/-! ### standing_in -/
abbrev s_standing_in : Stmt := topS 35
theorem sc_standing_in : FnScope ["room"] ["room"] (defScope s_standing_in) := ⟨rfl, rfl, rfl, by decide +kernel, rfl, by decide +kernel, by decide +kernel⟩
def sp_standing_in : Spc := fun ν as k => ∃ room : Int, as = [.d (eI room)] ∧ k ν (.d (eW ⟨room, [0], []⟩))
theorem ok_standing_in (A : At K mg "standing_in" s_standing_in) (B : Bi mg) (T : Tx K mg C) (HF : HouseF K C) : FnG P w K mg base C 1 "standing_in" ["room"] sp_standing_in := by
  refine def_g (lev := 0) A sc_standing_in (fun _ _ _ _ _ _ us hl => match us, hl with | [_], _ => rfl) (fun ν as k h => ?_) fun f cdv A outer s H E st hr W hW ok ν as k h => ?_
  · obtain ⟨room, rfl, hk⟩ := h
    rfl
  · obtain ⟨room, rfl, hk⟩ := h
    subst hW
    refine r_one (s_ret (q_tup (qa_cons (q_v 0 ⟨_, rfl, qa_cons (q_tup (qa_cons (q_int (qa_nil ⟨_, rfl, by simp, qa_cons (q_tup (qa_nil ⟨_, rfl, by simp, qa_nil ⟨_, rfl, by simp, ⟨rfl, hk⟩⟩⟩))⟩))))⟩))))
/-! ### reverses -/
abbrev s_reverses : Stmt := topS 58
theorem sc_reverses : FnScope ["step", "other"] ["step", "other"] (defScope s_reverses) := ⟨rfl, rfl, rfl, by decide +kernel, rfl, by decide +kernel, by decide +kernel⟩
def sp_reverses : Spc := fun ν as k => ∃ e f : Pass, as = [.d (eP e), .d (eP f)] ∧ k ν (.d (.bool (decide (f = inv e))))
theorem ok_reverses (A : At K mg "reverses" s_reverses) (B : Bi mg) (T : Tx K mg C) (HF : HouseF K C) : FnG P w K mg base C 1 "reverses" ["step", "other"] sp_reverses := by
  refine def_g (lev := 0) A sc_reverses (fun _ _ _ _ _ _ us hl => match us, hl with | [_, _], _ => rfl) (fun ν as k h => ?_) fun f cdv A outer s H E st hr W hW ok ν as k h => ?_
  · obtain ⟨e, f', rfl, hk⟩ := h
    rfl
  · obtain ⟨e, f', rfl, hk⟩ := h
    subst hW
    refine r_one (s_ret (q_cv (c_eqP (q_v 1 ⟨_, rfl, ⟨_, rfl, Low.h, q_tup (qa_cons (q_ix (q_v 0 ⟨_, rfl, ⟨_, rfl, q_int ⟨_, _, rfl, rfl, qa_cons (q_sub (q_int ⟨_, rfl, q_ix (q_v 0 ⟨_, rfl, ⟨_, rfl, q_int ⟨_, _, rfl, rfl, ⟨_, rfl, qa_nil ⟨_, rfl, by simp, ⟨_, rfl, Low.h, ⟨rfl, ?_⟩⟩⟩⟩⟩⟩⟩)⟩))⟩⟩⟩)))⟩⟩) ok)))
    have e1 := eqv_P f' (inv e)
    rw [← e1] at hk
    exact hk
/-! ### is_multiple -/
abbrev s_is_multiple : Stmt := topS 59
theorem sc_is_multiple : FnScope ["number", "base"] ["number", "base"] (defScope s_is_multiple) := ⟨rfl, rfl, rfl, by decide +kernel, rfl, by decide +kernel, by decide +kernel⟩
def sp_is_multiple : Spc := fun ν as k => ∃ n b : Int, as = [.d (eI n), .d (eI b)] ∧ (b ≠ 0 ∧ -6 ≤ b ∧ b ≤ 6) ∧ k ν (.d (.bool (decide (n % b = 0))))
theorem ok_is_multiple (A : At K mg "is_multiple" s_is_multiple) (B : Bi mg) (T : Tx K mg C) (HF : HouseF K C) : FnG P w K mg base C 1 "is_multiple" ["number", "base"] sp_is_multiple := by
  refine def_g (lev := 0) A sc_is_multiple (fun _ _ _ _ _ _ us hl => match us, hl with | [_, _], _ => rfl) (fun ν as k h => ?_) fun f cdv A outer s H E st hr W hW ok ν as k h => ?_
  · obtain ⟨n, b, rfl, hb, hk⟩ := h
    rfl
  · obtain ⟨n, b, rfl, hb, hk⟩ := h
    subst hW
    refine r_one (s_ret (q_cv (c_eqI (q_sub (q_v 0 ⟨_, rfl, ⟨_, rfl, q_mul (q_fdiv (q_v 0 ⟨_, rfl, ⟨_, rfl, q_v 1 ⟨_, rfl, ⟨_, rfl, sdiv hb.1 hb.2, ⟨_, rfl, q_v 1 ⟨_, rfl, ⟨_, rfl, smul' hb.2, ⟨_, rfl, ⟨_, rfl, q_int ⟨_, rfl, ⟨rfl, ?_⟩⟩⟩⟩⟩⟩⟩⟩⟩⟩⟩))⟩⟩)))))
    rw [← decide_eq_decide.mpr (fmod_zero hb.1)] at hk
    exact hk
end
end PF


/-! D5 -/
namespace PF
open PySem PySem.Spec PyProof.Rows L2 QL PR
theorem getD_some {α : Type} {xs : List α} {n : Nat} (h : n < xs.length) (d : α) : xs[n]? = some (xs.getD n d) := by
  rw [List.getD_eq_getElem?_getD, List.getElem?_eq_getElem h]
  rfl
theorem getD_mem {α : Type} {xs : List α} {n : Nat} (h : n < xs.length) (d : α) : xs.getD n d ∈ xs := List.mem_of_getElem? (getD_some h d)
theorem atI_getD {α : Type} {f : α → D} {xs : List α} {n : Nat} (h : n < xs.length) (d : α) : atI (xs.map f) (n : Int) = some (f (xs.getD n d)) := atI_at (getD_some h d)
theorem pas_getD {ds : List Door} {w : Walk} {r : Int} (h : WOk ds w r) {n : Nat} (hn : n < w.passes.length) : Pas ds (w.passes.getD n (0, 0)) := h.path.mem _ (getD_mem hn _)
theorem ixN_lt {n : Nat} {m : Nat} (h : n < m) : ixN m (n : Int) = some n := by
  unfold ixN
  rw [if_pos (by omega), if_pos (by omega), Int.toNat_natCast]
theorem abs_of {l : Int} (h : l ≠ 0 ∧ -6 ≤ l ∧ l ≤ 6) : (if l < 0 then -l else l) ≠ 0 ∧ -6 ≤ (if l < 0 then -l else l) ∧ (if l < 0 then -l else l) ≤ 6 := by
  split <;> omega
theorem fmod_abs {p l : Int} : p - p.fdiv (if l < 0 then -l else l) * (if l < 0 then -l else l) = p % l := by
  have e := Int.mul_fdiv_add_fmod p (if l < 0 then -l else l)
  rw [Int.mul_comm] at e
  have e2 : p - p.fdiv (if l < 0 then -l else l) * (if l < 0 then -l else l) = p.fmod (if l < 0 then -l else l) := by omega
  rw [e2]
  split
  · rw [Int.fmod_eq_emod_of_nonneg _ (by omega), Int.emod_neg]
  · rw [Int.fmod_eq_emod_of_nonneg _ (by omega)]
theorem sub_mod_fdiv {p l : Int} (h : l ≠ 0) : (p - p % l).fdiv l = p / l := by
  have e := Int.mul_ediv_add_emod p l
  have e2 : p - p % l = l * (p / l) := by omega
  rw [e2, Int.mul_fdiv_cancel_left _ h]
def turnB (w : Walk) (n : Nat) : Bool := decide (w.passes.getD (n + 1) (0, 0) = inv (w.passes.getD n (0, 0)))
def multB (ds : List Door) (w : Walk) (n : Nat) : Bool := decide (w.pulls.getD (n + 1) 0 % ar ds (w.passes.getD n (0, 0)) = 0)
def spotsL (ds : List Door) (w : Walk) : List Nat := ((List.range (w.passes.length - 1)).filter (turnB w)).filter (multB ds w)
abbrev eNs (ns : List Nat) : List D := ns.map fun (i : Nat) => PyData.int (i : Int)
def tI (g : Nat → Bool) : D → Bool
  | .int i => g i.toNat
  | _ => false
theorem filt (g : Nat → Bool) (ns : List Nat) : ((eNs ns).filter (tI g)).map id = eNs (ns.filter g) := by
  rw [List.map_id, List.filter_map]
  congr 1
theorem mem_spots {ds : List Door} {w : Walk} {n : Nat} : n ∈ spotsL ds w ↔ (n + 1 < w.passes.length ∧ w.passes.getD (n + 1) (0, 0) = inv (w.passes.getD n (0, 0)) ∧ w.pulls.getD (n + 1) 0 % ar ds (w.passes.getD n (0, 0)) = 0) := by
  unfold spotsL
  rw [List.mem_filter, List.mem_filter, List.mem_range]
  unfold turnB multB
  rw [decide_eq_true_iff, decide_eq_true_iff]
  constructor
  · rintro ⟨⟨a, b⟩, c⟩
    exact ⟨by omega, b, c⟩
  · rintro ⟨a, b, c⟩
    exact ⟨⟨by omega, b⟩, c⟩
section
variable {P : Program} {w : World} {K : PySem.W.Frag} {mg : Str → Option Value} {base : Heap} {C : Addr}
/-! ### carry -/
abbrev s_carry : Stmt := topS 60
theorem sc_carry : FnScope ["house", "walk", "spot", "times", "here", "leaving", "there", "arriving", "pulls"] ["house", "walk", "spot", "times"] (defScope s_carry) := ⟨rfl, rfl, rfl, by decide +kernel, rfl, by decide +kernel, by decide +kernel⟩
def sp_carry : Spc := fun ν as k => ∃ rooms ds wk r, ∃ (n : Nat) (t : Int), as = [.h rooms (eDs ds), .d (eW wk), .d (eI n), .d (eI t)] ∧ Hs rooms ds ∧ WOk ds wk r ∧ n < wk.passes.length ∧ k ν (.d (eW (carryW ds wk n t)))
theorem ok_carry (A : At K mg "carry" s_carry) (B : Bi mg) (T : Tx K mg C) (HF : HouseF K C) (G_gate_of : FnG P w K mg base C 1 "gate_of" ["house", "step"] sp_gate_of) : FnG P w K mg base C 2 "carry" ["house", "walk", "spot", "times"] sp_carry := by
  refine def_g (lev := 1) A sc_carry (fun _ _ _ _ _ _ us hl => match us, hl with | [_, _, _, _], _ => rfl) (fun ν as k h => ?_) fun f cdv A outer s H E st hr W hW ok ν as k h => ?_
  · obtain ⟨rooms, ds, wk, r, n, t, rfl, hs, hw, hn, hk⟩ := h
    rfl
  · obtain ⟨rooms, ds, wk, r, n, t, rfl, hs, hw, hn, hk⟩ := h
    subst hW
    have hp := pas_getD hw hn
    have hg := gate_dok hs hp
    have hl := hw.len
    refine r_cons (s_tup [4, 5, 6, 7] ok (pgs_cons (pg_name (i := 4) ok.nd rfl (.inl rfl)) (pgs_cons (pg_name (i := 5) ok.nd rfl (.inl rfl)) (pgs_cons (pg_name (i := 6) ok.nd rfl (.inl rfl)) (pgs_cons (pg_name (i := 7) ok.nd rfl (.inl rfl)) (pgs_nil))))) (q_call G_gate_of (hr.mono (by decide)) (qa_cons (q_v 0 ⟨_, rfl, qa_cons (q_ix (q_ix (q_v 1 ⟨_, rfl, ⟨_, rfl, q_int ⟨_, _, rfl, rfl, ⟨_, rfl, q_v 2 ⟨_, rfl, ⟨_, _, rfl, atI_getD hn (0, 0), qa_nil ⟨rfl, ⟨_, _, _, rfl, hp, ⟨_, rfl, rfl, ?_⟩⟩⟩⟩⟩⟩⟩⟩⟩)))⟩))))
    refine r_cons (s_set 8 ok (q_toList B.list (q_ix (q_v 1 ⟨_, rfl, ⟨_, rfl, q_int ⟨_, _, rfl, rfl, ⟨_, rfl, fun p => ⟨rfl, ?_⟩⟩⟩⟩⟩))))
    refine r_cons (s_setItem 8 ok rfl (q_sub (q_ixL (q_v 8 ⟨_, rfl, ⟨_, rfl, q_v 2 ⟨_, rfl, ⟨_, _, rfl, atI_getD (by omega) 0, ⟨_, rfl, q_mul (q_v 5 ⟨_, rfl, ⟨_, rfl, q_v 3 ⟨_, rfl, ⟨_, rfl, smul hg.one.2, ⟨_, rfl, ⟨_, rfl, q_v 2 ⟨_, rfl, ⟨_, _, rfl, ixN_lt (by rw [List.length_map]; omega), ?_⟩⟩⟩⟩⟩⟩⟩⟩)⟩⟩⟩⟩⟩))))
    have e1 : atI ((wk.pulls.map PyData.int).set n (.int (wk.pulls.getD n 0 - (gate ds (wk.passes.getD n (0, 0))).2.1 * t))) ((n : Int) + 1) = some (.int (wk.pulls.getD (n + 1) 0)) := by
      refine atI_nat (j := n + 1) ?_
      rw [List.getElem?_set_ne (by omega), List.getElem?_map, getD_some (by omega) 0]
      rfl
    refine r_cons (s_setItem 8 ok rfl (q_add (q_ixL (q_v 8 ⟨_, rfl, ⟨_, rfl, q_add (q_v 2 ⟨_, rfl, ⟨_, rfl, q_int ⟨_, rfl, ⟨_, _, rfl, e1, ⟨_, rfl, q_mul (q_v 7 ⟨_, rfl, ⟨_, rfl, q_v 3 ⟨_, rfl, ⟨_, rfl, smul hg.two.2, ⟨_, rfl, ⟨_, rfl, q_add (q_v 2 ⟨_, rfl, ⟨_, rfl, q_int ⟨_, rfl, ⟨_, n + 1, rfl, ixN_lt (n := n + 1) (by rw [List.length_set, List.length_map]; omega), ?_⟩⟩⟩⟩)⟩⟩⟩⟩⟩⟩)⟩⟩⟩⟩⟩)⟩⟩))))
    refine r_one (s_ret (q_tup (qa_cons (q_ix (q_v 1 ⟨_, rfl, ⟨_, rfl, q_int ⟨_, _, rfl, rfl, qa_cons (q_toTup B.tuple (q_v 8 ⟨_, rfl, ⟨_, rfl, qa_cons (q_ix (q_v 1 ⟨_, rfl, ⟨_, rfl, q_int ⟨_, _, rfl, rfl, qa_nil ⟨_, rfl, by simp, ⟨rfl, ?_⟩⟩⟩⟩⟩))⟩⟩))⟩⟩⟩)))))
    have e2 : eW (carryW ds wk n t) = .tuple [.int wk.room, .tuple (((wk.pulls.map PyData.int).set n (.int (wk.pulls.getD n 0 - (gate ds (wk.passes.getD n (0, 0))).2.1 * t))).set (n + 1) (.int (wk.pulls.getD (n + 1) 0 + (gate ds (wk.passes.getD n (0, 0))).2.2.2 * t))), ePs wk.passes] := by
      unfold eW carryW lv ar
      rw [← List.map_set, ← List.map_set]
    rw [e2] at hk
    exact hk
/-! ### cancel -/
abbrev s_cancel : Stmt := topS 61
theorem sc_cancel : FnScope ["walk", "spot", "room", "pulls", "passes", "middle"] ["walk", "spot"] (defScope s_cancel) := ⟨rfl, rfl, rfl, by decide +kernel, rfl, by decide +kernel, by decide +kernel⟩
def sp_cancel : Spc := fun ν as k => ∃ (wk : Walk) (n : Nat), as = [.d (eW wk), .d (eI n)] ∧ n + 2 < wk.pulls.length ∧ (wk.pulls.length ≤ 400 ∧ wk.passes.length ≤ 400) ∧ k ν (.d (eW (cancelW wk n)))
theorem ok_cancel (A : At K mg "cancel" s_cancel) (B : Bi mg) (T : Tx K mg C) (HF : HouseF K C) : FnG P w K mg base C 1 "cancel" ["walk", "spot"] sp_cancel := by
  refine def_g (lev := 0) A sc_cancel (fun _ _ _ _ _ _ us hl => match us, hl with | [_, _], _ => rfl) (fun ν as k h => ?_) fun f cdv A outer s H E st hr W hW ok ν as k h => ?_
  · obtain ⟨wk, n, rfl, hn, hl, hk⟩ := h
    rfl
  · obtain ⟨wk, n, rfl, hn, hl, hk⟩ := h
    subst hW
    have e1 : atI (wk.pulls.map PyData.int) ((n : Int) + 2) = some (.int (wk.pulls.getD (n + 2) 0)) := atI_getD (n := n + 2) (f := PyData.int) hn 0
    have e3 : QL.cutD (wk.pulls.map PyData.int) (some ((n : Int) + 3)) none = (wk.pulls.drop (n + 3)).map PyData.int := cut_drop (n := n + 3)
    have e4 : QL.cutD (wk.passes.map eP) (some ((n : Int) + 2)) none = (wk.passes.drop (n + 2)).map eP := cut_drop (n := n + 2)
    refine r_cons (s_tup [2, 3, 4] ok (pgs_cons (pg_name (i := 2) ok.nd rfl (.inl rfl)) (pgs_cons (pg_name (i := 3) ok.nd rfl (.inl rfl)) (pgs_cons (pg_name (i := 4) ok.nd rfl (.inl rfl)) (pgs_nil)))) (q_v 0 ⟨_, rfl, ⟨_, rfl, rfl, ?_⟩⟩))
    refine r_cons (s_set 5 ok (q_tup (qa_cons (q_add (q_ix (q_v 3 ⟨_, rfl, ⟨_, rfl, q_v 1 ⟨_, rfl, ⟨_, _, rfl, atI_getD (by omega) 0, ⟨_, rfl, q_ix (q_v 3 ⟨_, rfl, ⟨_, rfl, q_add (q_v 1 ⟨_, rfl, ⟨_, rfl, q_int ⟨_, rfl, ⟨_, _, rfl, e1, ⟨_, rfl, qa_nil ⟨_, rfl, by simp, ⟨rfl, ?_⟩⟩⟩⟩⟩⟩⟩)⟩⟩)⟩⟩⟩⟩⟩))))))
    refine r_one (s_ret (q_tup (qa_cons (q_v 2 ⟨_, rfl, qa_cons (q_cat (q_cat (q_sl01 (q_v 3 ⟨_, rfl, ⟨_, rfl, q_v 1 ⟨_, rfl, ⟨_, rfl, ⟨_, rfl, q_v 5 ⟨_, rfl, ⟨_, rfl, ?_, ⟨_, rfl, q_sl10 (q_v 3 ⟨_, rfl, ⟨_, rfl, q_add (q_v 1 ⟨_, rfl, ⟨_, rfl, q_int ⟨_, rfl, ⟨_, rfl, ⟨_, rfl, ?_, qa_cons (q_cat (q_sl01 (q_v 4 ⟨_, rfl, ⟨_, rfl, q_v 1 ⟨_, rfl, ⟨_, rfl, ⟨_, rfl, q_sl10 (q_v 4 ⟨_, rfl, ⟨_, rfl, q_add (q_v 1 ⟨_, rfl, ⟨_, rfl, q_int ⟨_, rfl, ⟨_, rfl, ⟨_, rfl, ?_, qa_nil ⟨_, rfl, by simp, ⟨rfl, ?_⟩⟩⟩⟩⟩⟩⟩)⟩⟩)⟩⟩⟩⟩⟩)))⟩⟩⟩⟩⟩)⟩⟩)⟩⟩⟩⟩⟩⟩⟩⟩))))⟩))))
    · rw [cut_take]
      simp only [List.length_map, List.length_take, List.length_cons, List.length_nil]
      omega
    · rw [cut_take, e3]
      simp only [List.length_append, List.length_map, List.length_take, List.length_drop, List.length_cons, List.length_nil]
      omega
    · rw [cut_take, e4]
      simp only [List.length_map, List.length_take, List.length_drop]
      omega
    · have e2 : eW (cancelW wk n) = .tuple [.int wk.room, .tuple (QL.cutD (wk.pulls.map PyData.int) none (some (n : Int)) ++ [.int (wk.pulls.getD n 0 + wk.pulls.getD (n + 2) 0)] ++ QL.cutD (wk.pulls.map PyData.int) (some ((n : Int) + 3)) none), .tuple (QL.cutD (wk.passes.map eP) none (some (n : Int)) ++ QL.cutD (wk.passes.map eP) (some ((n : Int) + 2)) none)] := by
        rw [cut_take, cut_take, e3, e4]
        unfold eW cancelW
        simp only [eIs, ePs, List.map_append, List.map_cons, List.map_nil]
      rw [e2] at hk
      exact hk
/-! ### turns_back -/
abbrev s_turns_back : Stmt := topS 62
theorem sc_turns_back : FnScope ["walk", "spot"] ["walk", "spot"] (defScope s_turns_back) := ⟨rfl, rfl, rfl, by decide +kernel, rfl, by decide +kernel, by decide +kernel⟩
def sp_turns_back : Spc := fun ν as k => ∃ (wk : Walk) (n : Nat), as = [.d (eW wk), .d (eI n)] ∧ n + 1 < wk.passes.length ∧ k ν (.d (.bool (turnB wk n)))
theorem ok_turns_back (A : At K mg "turns_back" s_turns_back) (B : Bi mg) (T : Tx K mg C) (HF : HouseF K C) (G_reverses : FnG P w K mg base C 1 "reverses" ["step", "other"] sp_reverses) : FnG P w K mg base C 2 "turns_back" ["walk", "spot"] sp_turns_back := by
  refine def_g (lev := 1) A sc_turns_back (fun _ _ _ _ _ _ us hl => match us, hl with | [_, _], _ => rfl) (fun ν as k h => ?_) fun f cdv A outer s H E st hr W hW ok ν as k h => ?_
  · obtain ⟨wk, n, rfl, hn, hk⟩ := h
    rfl
  · obtain ⟨wk, n, rfl, hn, hk⟩ := h
    subst hW
    have e1 : atI (wk.passes.map eP) ((n : Int) + 1) = some (eP (wk.passes.getD (n + 1) (0, 0))) := atI_getD (n := n + 1) (f := eP) hn (0, 0)
    have c0 : decide ((0 : Int) ≤ (n : Int)) = true := by simp
    have c1 : decide ((n : Int) < ((wk.passes.map eP).length : Int) - 1) = true := by
      rw [List.length_map]
      exact decide_eq_true (by omega)
    refine r_one (s_ret (q_and (q_chain op_le op_lt (by with_unfolding_all rfl) (q_int ⟨_, rfl, q_v 1 ⟨_, rfl, ⟨_, rfl, fun hc => q_sub (q_len B.len (q_ix (q_v 0 ⟨_, rfl, ⟨_, rfl, q_int ⟨_, _, rfl, rfl, ⟨_, rfl, ⟨_, rfl, q_int ⟨_, rfl, ⟨_, rfl, ⟨_, rfl, fun hb => q_one (q_call G_reverses (hr.mono (by decide)) (qa_cons (q_ix (q_ix (q_v 0 ⟨_, rfl, ⟨_, rfl, q_int ⟨_, _, rfl, rfl, ⟨_, rfl, q_v 1 ⟨_, rfl, ⟨_, _, rfl, atI_getD (by omega) (0, 0), qa_cons (q_ix (q_ix (q_v 0 ⟨_, rfl, ⟨_, rfl, q_int ⟨_, _, rfl, rfl, ⟨_, rfl, q_add (q_v 1 ⟨_, rfl, ⟨_, rfl, q_int ⟨_, rfl, ⟨_, _, rfl, e1, qa_nil ⟨rfl, ⟨_, _, rfl, ⟨rfl, hk⟩⟩⟩⟩⟩⟩⟩)⟩⟩⟩⟩)))⟩⟩⟩⟩⟩⟩))))), fun hb => absurd (hb.symm.trans c1) (by decide)⟩⟩⟩⟩⟩⟩⟩⟩))), fun hc => absurd (hc.symm.trans c0) (by decide)⟩⟩⟩))))
/-! ### spots_of -/
abbrev s_spots_of : Stmt := topS 63
theorem sc_spots_of : FnScope ["house", "walk", "found", "spot"] ["house", "walk"] (defScope s_spots_of) := ⟨rfl, rfl, rfl, by decide +kernel, rfl, by decide +kernel, by decide +kernel⟩
def sp_spots_of : Spc := fun ν as k => ∃ rooms ds wk r, as = [.h rooms (eDs ds), .d (eW wk)] ∧ Hs rooms ds ∧ WOk ds wk r ∧ wk.passes.length ≤ 400 ∧ k ν (.d (.tuple (eNs (spotsL ds wk))))
theorem ok_spots_of (A : At K mg "spots_of" s_spots_of) (B : Bi mg) (T : Tx K mg C) (HF : HouseF K C) (G_gate_of : FnG P w K mg base C 1 "gate_of" ["house", "step"] sp_gate_of) (G_is_multiple : FnG P w K mg base C 1 "is_multiple" ["number", "base"] sp_is_multiple) (G_turns_back : FnG P w K mg base C 2 "turns_back" ["walk", "spot"] sp_turns_back) : FnG P w K mg base C 3 "spots_of" ["house", "walk"] sp_spots_of := by
  refine def_g (lev := 2) A sc_spots_of (fun _ _ _ _ _ _ us hl => match us, hl with | [_, _], _ => rfl) (fun ν as k h => ?_) fun f cdv A outer s H E st hr W hW ok ν as k h => ?_
  · obtain ⟨rooms, ds, wk, r, rfl, hs, hw, hl, hk⟩ := h
    rfl
  · obtain ⟨rooms, ds, wk, r, rfl, hs, hw, hl, hk⟩ := h
    subst hW
    have hlen := hw.len
    refine r_cons (s_setLc 2 ok (qc1t 3 (tI (turnB wk)) id ok (qi_range1 B.range (q_sub (q_len B.len (q_ix (q_v 1 ⟨_, rfl, ⟨_, rfl, q_int ⟨_, _, rfl, rfl, ⟨_, rfl, ⟨_, rfl, q_int ⟨_, rfl, ⟨_, rfl, ?_, ⟨trivial, ?_, fun i d hd => ?_, fun p => ⟨rfl, ?_⟩⟩⟩⟩⟩⟩⟩⟩⟩))))) (hg := (fun _ _ _ _ _ => pg_name ok.nd rfl (.inl rfl)))))
    · rw [List.length_map]
      omega
    · rw [List.length_map, List.length_range, List.length_map]
      omega
    · obtain ⟨n, hn, rfl⟩ := getMap hd
      have hn2 : n + 1 < wk.passes.length := by
        have := List.mem_range.mp (List.mem_of_getElem? hn)
        rw [List.length_map] at this
        omega
      exact ⟨fun gh s H C cl fp => qt_v (q_call G_turns_back (hr.mono (by decide)) (qa_cons (q_v 1 ⟨_, rfl, qa_cons (q_v 3 ⟨_, rfl, qa_nil ⟨rfl, ⟨_, _, rfl, hn2, ⟨_, rfl, ⟨rfl, rfl⟩⟩⟩⟩⟩)⟩))), fun ht gh s H C cl fp => q_v 3 ⟨_, rfl, ⟨rfl, rfl⟩⟩⟩
    have e0 : ((((wk.passes.map eP).length : Int) - 1).toNat) = wk.passes.length - 1 := by
      rw [List.length_map]
      omega
    rw [e0, filt]
    refine r_one (s_ret (q_toTup B.tuple (q_lc ok (qc1t 3 (tI (multB ds wk)) id ok (qi_own 2 rfl ⟨rfl, ?_, fun i d hd => ?_, fun p => ⟨_, rfl, ⟨rfl, ?_⟩⟩⟩) (hg := (fun _ _ _ _ _ => pg_name ok.nd rfl (.inl rfl)))))))
    · rw [List.length_map]
      refine Nat.le_trans (List.length_filter_le _ _) ?_
      rw [List.length_range]
      omega
    · obtain ⟨n, hn, rfl⟩ := getMap hd
      have hn2 : n + 1 < wk.passes.length := by
        have := List.mem_range.mp (List.mem_filter.mp (List.mem_of_getElem? hn)).1
        omega
      have hp := pas_getD hw (n := n) (by omega)
      have hg := gate_dok hs hp
      have e1 : atI (wk.pulls.map PyData.int) ((n : Int) + 1) = some (.int (wk.pulls.getD (n + 1) 0)) := atI_getD (n := n + 1) (f := PyData.int) (by omega) 0
      exact ⟨fun gh s H C cl fp => qt_v (q_call G_is_multiple (hr.mono (by decide)) (qa_cons (q_ix (q_ix (q_v 1 ⟨_, rfl, ⟨_, rfl, q_int ⟨_, _, rfl, rfl, ⟨_, rfl, q_add (q_v 3 ⟨_, rfl, ⟨_, rfl, q_int ⟨_, rfl, ⟨_, _, rfl, e1, qa_cons (q_ix (q_call G_gate_of (hr.mono (by decide)) (qa_cons (q_v 0 ⟨_, rfl, qa_cons (q_ix (q_ix (q_v 1 ⟨_, rfl, ⟨_, rfl, q_int ⟨_, _, rfl, rfl, ⟨_, rfl, q_v 3 ⟨_, rfl, ⟨_, _, rfl, atI_getD (by omega) (0, 0), qa_nil ⟨rfl, ⟨_, _, _, rfl, hp, ⟨_, rfl, q_int ⟨_, _, rfl, rfl, qa_nil ⟨rfl, ⟨_, _, rfl, hg.two, ⟨_, rfl, ⟨rfl, rfl⟩⟩⟩⟩⟩⟩⟩⟩⟩⟩⟩⟩⟩⟩)))⟩))))⟩⟩⟩⟩)⟩⟩⟩⟩))))), fun ht gh s H C cl fp => q_v 3 ⟨_, rfl, ⟨rfl, rfl⟩⟩⟩
    · rw [filt]
      exact hk
/-! ### times_to_shorten -/
abbrev s_times_to_shorten : Stmt := topS 64
theorem sc_times_to_shorten : FnScope ["house", "walk", "spot"] ["house", "walk", "spot"] (defScope s_times_to_shorten) := ⟨rfl, rfl, rfl, by decide +kernel, rfl, by decide +kernel, by decide +kernel⟩
def sp_times_to_shorten : Spc := fun ν as k => ∃ rooms ds wk r, ∃ n : Nat, as = [.h rooms (eDs ds), .d (eW wk), .d (eI n)] ∧ Hs rooms ds ∧ WOk ds wk r ∧ n < wk.passes.length ∧ wk.pulls.getD (n + 1) 0 % ar ds (wk.passes.getD n (0, 0)) = 0 ∧ k ν (.d (eI (0 - wk.pulls.getD (n + 1) 0 / ar ds (wk.passes.getD n (0, 0)))))
theorem ok_times_to_shorten (A : At K mg "times_to_shorten" s_times_to_shorten) (B : Bi mg) (T : Tx K mg C) (HF : HouseF K C) (G_gate_of : FnG P w K mg base C 1 "gate_of" ["house", "step"] sp_gate_of) : FnG P w K mg base C 2 "times_to_shorten" ["house", "walk", "spot"] sp_times_to_shorten := by
  refine def_g (lev := 1) A sc_times_to_shorten (fun _ _ _ _ _ _ us hl => match us, hl with | [_, _, _], _ => rfl) (fun ν as k h => ?_) fun f cdv A outer s H E st hr W hW ok ν as k h => ?_
  · obtain ⟨rooms, ds, wk, r, n, rfl, hs, hw, hn, hm, hk⟩ := h
    rfl
  · obtain ⟨rooms, ds, wk, r, n, rfl, hs, hw, hn, hm, hk⟩ := h
    subst hW
    have hlen := hw.len
    have hp := pas_getD hw hn
    have hg := gate_dok hs hp
    have e1 : atI (wk.pulls.map PyData.int) ((n : Int) + 1) = some (.int (wk.pulls.getD (n + 1) 0)) := atI_getD (n := n + 1) (f := PyData.int) (by omega) 0
    refine r_one (s_ret (q_sub (q_int ⟨_, rfl, q_fdiv (q_ix (q_ix (q_v 1 ⟨_, rfl, ⟨_, rfl, q_int ⟨_, _, rfl, rfl, ⟨_, rfl, q_add (q_v 2 ⟨_, rfl, ⟨_, rfl, q_int ⟨_, rfl, ⟨_, _, rfl, e1, ⟨_, rfl, q_ix (q_call G_gate_of (hr.mono (by decide)) (qa_cons (q_v 0 ⟨_, rfl, qa_cons (q_ix (q_ix (q_v 1 ⟨_, rfl, ⟨_, rfl, q_int ⟨_, _, rfl, rfl, ⟨_, rfl, q_v 2 ⟨_, rfl, ⟨_, _, rfl, atI_getD hn (0, 0), qa_nil ⟨rfl, ⟨_, _, _, rfl, hp, ⟨_, rfl, q_int ⟨_, _, rfl, rfl, ⟨_, rfl, sdiv hg.two.1 hg.two.2, ⟨_, rfl, ⟨rfl, ?_⟩⟩⟩⟩⟩⟩⟩⟩⟩⟩⟩⟩⟩)))⟩)))⟩⟩⟩⟩⟩)⟩⟩⟩⟩)))⟩)))
    rw [← fdiv_ex (ar_ne hs.nz _) hm] at hk
    exact hk
/-! ### times_to_fit -/
abbrev s_times_to_fit : Stmt := topS 65
theorem sc_times_to_fit : FnScope ["house", "walk", "spot", "leaving", "size", "rest"] ["house", "walk", "spot"] (defScope s_times_to_fit) := ⟨rfl, rfl, rfl, by decide +kernel, rfl, by decide +kernel, by decide +kernel⟩
def sp_times_to_fit : Spc := fun ν as k => ∃ rooms ds wk r, ∃ n : Nat, as = [.h rooms (eDs ds), .d (eW wk), .d (eI n)] ∧ Hs rooms ds ∧ WOk ds wk r ∧ n < wk.passes.length ∧ k ν (.d (eI (wk.pulls.getD n 0 / lv ds (wk.passes.getD n (0, 0)))))
theorem ok_times_to_fit (A : At K mg "times_to_fit" s_times_to_fit) (B : Bi mg) (T : Tx K mg C) (HF : HouseF K C) (G_gate_of : FnG P w K mg base C 1 "gate_of" ["house", "step"] sp_gate_of) : FnG P w K mg base C 2 "times_to_fit" ["house", "walk", "spot"] sp_times_to_fit := by
  refine def_g (lev := 1) A sc_times_to_fit (fun _ _ _ _ _ _ us hl => match us, hl with | [_, _, _], _ => rfl) (fun ν as k h => ?_) fun f cdv A outer s H E st hr W hW ok ν as k h => ?_
  · obtain ⟨rooms, ds, wk, r, n, rfl, hs, hw, hn, hk⟩ := h
    rfl
  · obtain ⟨rooms, ds, wk, r, n, rfl, hs, hw, hn, hk⟩ := h
    subst hW
    have hlen := hw.len
    have hp := pas_getD hw hn
    have hg := gate_dok hs hp
    have ha := abs_of hg.one
    have e1 := atI_getD (f := PyData.int) (xs := wk.pulls) (n := n) (by omega) 0
    refine r_cons (s_set 3 ok (q_ix (q_call G_gate_of (hr.mono (by decide)) (qa_cons (q_v 0 ⟨_, rfl, qa_cons (q_ix (q_ix (q_v 1 ⟨_, rfl, ⟨_, rfl, q_int ⟨_, _, rfl, rfl, ⟨_, rfl, q_v 2 ⟨_, rfl, ⟨_, _, rfl, atI_getD hn (0, 0), qa_nil ⟨rfl, ⟨_, _, _, rfl, hp, ⟨_, rfl, q_int ⟨_, _, rfl, rfl, ⟨rfl, ?_⟩⟩⟩⟩⟩⟩⟩⟩⟩⟩⟩)))⟩)))))
    refine r_cons (s_set 4 ok (q_abs B.abs (q_v 3 ⟨_, rfl, ⟨_, rfl, ⟨rfl, ?_⟩⟩⟩)))
    refine r_cons (s_set 5 ok (q_sub (q_ix (q_ix (q_v 1 ⟨_, rfl, ⟨_, rfl, q_int ⟨_, _, rfl, rfl, ⟨_, rfl, q_v 2 ⟨_, rfl, ⟨_, _, rfl, e1, ⟨_, rfl, q_mul (q_fdiv (q_ix (q_ix (q_v 1 ⟨_, rfl, ⟨_, rfl, q_int ⟨_, _, rfl, rfl, ⟨_, rfl, q_v 2 ⟨_, rfl, ⟨_, _, rfl, e1, ⟨_, rfl, q_v 4 ⟨_, rfl, ⟨_, rfl, sdiv ha.1 ha.2, ⟨_, rfl, q_v 4 ⟨_, rfl, ⟨_, rfl, smul' ha.2, ⟨_, rfl, ⟨rfl, ?_⟩⟩⟩⟩⟩⟩⟩⟩⟩⟩⟩⟩⟩⟩))))⟩⟩⟩⟩⟩⟩⟩)))))
    refine r_one (s_ret (q_fdiv (q_sub (q_ix (q_ix (q_v 1 ⟨_, rfl, ⟨_, rfl, q_int ⟨_, _, rfl, rfl, ⟨_, rfl, q_v 2 ⟨_, rfl, ⟨_, _, rfl, e1, ⟨_, rfl, q_v 5 ⟨_, rfl, ⟨_, rfl, ⟨_, rfl, q_v 3 ⟨_, rfl, ⟨_, rfl, sdiv hg.one.1 hg.one.2, ⟨rfl, ?_⟩⟩⟩⟩⟩⟩⟩⟩⟩⟩⟩⟩⟩))))))
    rw [fmod_abs, sub_mod_fdiv hg.one.1]
    exact hk
end
end PF


/-! D6 -/
namespace PF
open PySem PySem.Spec PyProof.Rows L2 QL PR
theorem r_mid {W : Wx} {ν : Nat} {st : Stmt} {rest : List Stmt} {Γ : Ga} {P : Po} (M : Nat → Ga → Prop) (h : R1 W ν st Γ { P with nx := M }) (k : ∀ ν' Γ', M ν' Γ' → RR W ν' rest Γ' P) : RR W ν (st :: rest) Γ P :=
  r_cons (h.mono (fun Γ' q => k _ Γ' q) (fun _ q => q) (fun _ q => q) (fun _ q => q))
theorem spots_nil {ds : List Door} {w : Walk} (h : spotsL ds w = []) : ∀ n, n + 1 < w.passes.length → w.passes.getD (n + 1) (0, 0) = inv (w.passes.getD n (0, 0)) → ¬ w.pulls.getD (n + 1) 0 % ar ds (w.passes.getD n (0, 0)) = 0 := fun n h1 h2 h3 => by
  have : n ∈ spotsL ds w := mem_spots.mpr ⟨h1, h2, h3⟩
  rw [h] at this
  cases this
instance (ns : List Nat) : Lows (eNs ns) := ⟨by
  have e : eNs ns = (ns.map fun (i : Nat) => (i : Int)).map PyData.int := by
    rw [List.map_map]
    rfl
  rw [e]
  exact low_ints _ 5⟩
section
variable {P : Program} {w : World} {K : PySem.W.Frag} {mg : Str → Option Value} {base : Heap} {C : Addr}
/-! ### plain_with_moves -/
abbrev s_plain_with_moves : Stmt := topS 66
theorem sc_plain_with_moves : FnScope ["house", "walk", "found", "spots", "spot", "times"] ["house", "walk"] (defScope s_plain_with_moves) := ⟨rfl, rfl, rfl, by decide +kernel, rfl, by decide +kernel, by decide +kernel⟩
def sp_plain_with_moves : Spc := fun ν as k => ∃ rooms ds wk r, as = [.h rooms (eDs ds), .d (eW wk)] ∧ Hs rooms ds ∧ WOk ds wk r ∧ wk.passes.length ≤ 200 ∧ k ν (.d (.tuple [eW (nfW ds wk), .dict []]))
theorem ok_plain_with_moves (A : At K mg "plain_with_moves" s_plain_with_moves) (B : Bi mg) (T : Tx K mg C) (HF : HouseF K C) (G_cancel : FnG P w K mg base C 1 "cancel" ["walk", "spot"] sp_cancel) (G_carry : FnG P w K mg base C 2 "carry" ["house", "walk", "spot", "times"] sp_carry) (G_spots_of : FnG P w K mg base C 3 "spots_of" ["house", "walk"] sp_spots_of) (G_times_to_fit : FnG P w K mg base C 2 "times_to_fit" ["house", "walk", "spot"] sp_times_to_fit) (G_times_to_shorten : FnG P w K mg base C 2 "times_to_shorten" ["house", "walk", "spot"] sp_times_to_shorten) : FnG P w K mg base C 4 "plain_with_moves" ["house", "walk"] sp_plain_with_moves := by
  refine def_g (lev := 3) A sc_plain_with_moves (fun _ _ _ _ _ _ us hl => match us, hl with | [_, _], _ => rfl) (fun ν as k h => ?_) fun f cdv A outer s H E st hr W hW ok ν as k h => ?_
  · obtain ⟨rooms, ds, wk, r, rfl, hs, hw, hl, hk⟩ := h
    rfl
  · obtain ⟨rooms, ds, wk, r, rfl, hs, hw, hl, hk⟩ := h
    subst hW
    have hz := hs.nz
    refine r_cons (s_set 2 ok (q_lst (qa_nil ⟨_, rfl, by simp, fun p => ⟨rfl, ?_⟩⟩)))
    refine r_cons (s_set 3 ok (q_call G_spots_of (hr.mono (by decide)) (qa_cons (q_v 0 ⟨_, rfl, qa_cons (q_v 1 ⟨_, rfl, qa_nil ⟨rfl, ⟨_, _, _, _, rfl, hs, hw, by omega, ⟨rfl, ?_⟩⟩⟩⟩)⟩))))
    refine r_cons (s_while (fun m Γ => ∃ w' xs x4 x5, m = w'.passes.length ∧ Sh ds wk w' r ∧ xs.length ≤ 2 * (wk.passes.length - w'.passes.length) ∧ Γ = [some (.h rooms (eDs ds)), some (.d (eW w')), some (.o p xs), some (.d (.tuple (eNs (spotsL ds w')))), x4, x5]) ok ⟨_, wk, [], none, none, rfl, sh_start hw, by simp, rfl⟩ fun m Γ iv => ?_)
    obtain ⟨w', xs, x4, x5, rfl, sh, hxs, rfl⟩ := iv
    have hle := sh.le
    refine qt_cv (c_neP (q_v 3 ⟨_, rfl, ⟨_, rfl, Low.h, q_tup (qa_nil ⟨_, rfl, by simp, ⟨_, rfl, Low.h, ⟨_, rfl, ⟨rfl, fun hb => ?_, fun hb => ?_⟩⟩⟩⟩)⟩⟩) ok)
    · obtain ⟨n, ns, hsp⟩ : ∃ n ns, spotsL ds w' = n :: ns := by
        cases hsp : spotsL ds w' with
        | nil =>
          rw [hsp] at hb
          exact absurd hb (by simp [PyData.eqv, PyData.eqvAll])
        | cons n ns => exact ⟨n, ns, rfl⟩
      obtain ⟨m1, m2, m3⟩ := mem_spots.mp (show n ∈ spotsL ds w' by rw [hsp]; exact List.mem_cons_self)
      have hlw := sh.ok.len
      have c2 : (carryW ds w' n (0 - w'.pulls.getD (n + 1) 0 / ar ds (w'.passes.getD n (0, 0)))).pulls.length = w'.pulls.length := by
        show ((w'.pulls.set _ _).set _ _).length = _
        rw [List.length_set, List.length_set]
      refine r_cons (s_set 4 ok (q_ix (q_v 3 ⟨_, rfl, ⟨_, rfl, q_int ⟨_, .int n, rfl, by rw [hsp]; exact atI_nat (j := 0) rfl, ⟨rfl, ?_⟩⟩⟩⟩)))
      refine r_cons (s_set 5 ok (q_call G_times_to_shorten (hr.mono (by decide)) (qa_cons (q_v 0 ⟨_, rfl, qa_cons (q_v 1 ⟨_, rfl, qa_cons (q_v 4 ⟨_, rfl, qa_nil ⟨rfl, ⟨_, _, _, _, _, rfl, hs, sh.ok, by omega, m3, ⟨rfl, ?_⟩⟩⟩⟩)⟩)⟩))))
      refine r_mid (fun ν' Γ' => ν' = ν ∧ ∃ xs' x5', xs'.length ≤ xs.length + 1 ∧ Γ' = [some (.h rooms (eDs ds)), some (.d (eW (carryW ds w' n (0 - w'.pulls.getD (n + 1) 0 / ar ds (w'.passes.getD n (0, 0)))))), some (.o p xs'), some (.d (.tuple (eNs (spotsL ds w')))), some (.d (.int n)), x5']) (s_if (qt_cv (c_neI (q_v 5 ⟨_, rfl, ⟨_, rfl, q_int ⟨_, rfl, ⟨_, rfl, ⟨fun hb => ?_, fun hb => ?_⟩⟩⟩⟩⟩)))) ?_
      · refine r_cons (s_append 2 rfl (q_tup (qa_cons (q_tup (qa_cons (q_str (qa_cons (q_v 4 ⟨_, rfl, qa_cons (q_v 5 ⟨_, rfl, qa_nil ⟨_, rfl, by simp, qa_cons (q_tup (qa_cons (q_str (qa_cons (q_v 4 ⟨_, rfl, qa_cons (q_sub (q_int ⟨_, rfl, q_v 5 ⟨_, rfl, ⟨_, rfl, qa_nil ⟨_, rfl, by simp, qa_nil ⟨_, rfl, by simp, ⟨_, rfl, by omega, ?_⟩⟩⟩⟩⟩⟩))⟩)))))⟩⟩)⟩))))))))
        exact r_one (s_set 1 ok (q_call G_carry (hr.mono (by decide)) (qa_cons (q_v 0 ⟨_, rfl, qa_cons (q_v 1 ⟨_, rfl, qa_cons (q_v 4 ⟨_, rfl, qa_cons (q_v 5 ⟨_, rfl, qa_nil ⟨rfl, ⟨_, _, _, _, _, _, rfl, hs, sh.ok, by omega, ⟨rfl, rfl, _, _, by simp, rfl⟩⟩⟩⟩)⟩)⟩)⟩))))
      · have h0 : 0 - w'.pulls.getD (n + 1) 0 / ar ds (w'.passes.getD n (0, 0)) = 0 := by simpa using hb
        have e3 : eW w' = eW (carryW ds w' n (0 - w'.pulls.getD (n + 1) 0 / ar ds (w'.passes.getD n (0, 0)))) := by rw [h0, carry_zero]
        refine r_nil ⟨rfl, xs, some (.d (eI (0 - w'.pulls.getD (n + 1) 0 / ar ds (w'.passes.getD n (0, 0))))), by omega, ?_⟩
        rw [← e3]
        rfl
      rintro ν' Γ' ⟨rfl, xs', x5', hxs', rfl⟩
      have e1 : atI (w'.passes.map eP) (n : Int) = some (eP (w'.passes.getD n (0, 0))) := atI_getD (by omega) (0, 0)
      have e2 : atI ((carryW ds w' n (0 - w'.pulls.getD (n + 1) 0 / ar ds (w'.passes.getD n (0, 0)))).pulls.map PyData.int) (n : Int) = some (.int ((carryW ds w' n (0 - w'.pulls.getD (n + 1) 0 / ar ds (w'.passes.getD n (0, 0)))).pulls.getD n 0)) := atI_getD (by omega) 0
      refine r_cons (s_append 2 rfl (q_tup (qa_cons (q_tup (qa_cons (q_str (qa_cons (q_v 4 ⟨_, rfl, qa_nil ⟨_, rfl, by simp, qa_cons (q_tup (qa_cons (q_str (qa_cons (q_v 4 ⟨_, rfl, qa_cons (q_ix (q_ix (q_v 1 ⟨_, rfl, ⟨_, rfl, q_int ⟨_, _, rfl, rfl, ⟨_, rfl, q_v 4 ⟨_, rfl, ⟨_, _, rfl, e1, qa_cons (q_ix (q_ix (q_v 1 ⟨_, rfl, ⟨_, rfl, q_int ⟨_, _, rfl, rfl, ⟨_, rfl, q_v 4 ⟨_, rfl, ⟨_, _, rfl, e2, qa_nil ⟨_, rfl, by simp, qa_nil ⟨_, rfl, by simp, ⟨_, rfl, by omega, ?_⟩⟩⟩⟩⟩⟩⟩⟩⟩)))⟩⟩⟩⟩⟩⟩)))⟩)))))⟩⟩))))))))
      obtain ⟨sh2, hl2⟩ := sh_step hz sh m1 m2 m3
      refine r_cons (s_set 1 ok (q_call G_cancel (hr.mono (by decide)) (qa_cons (q_v 1 ⟨_, rfl, qa_cons (q_v 4 ⟨_, rfl, qa_nil ⟨rfl, ⟨_, _, rfl, by omega, ⟨by omega, show w'.passes.length ≤ 400 by omega⟩, ⟨rfl, ?_⟩⟩⟩⟩)⟩))))
      have hle2 := sh2.le
      refine r_one (s_set 3 ok (q_call G_spots_of (hr.mono (by decide)) (qa_cons (q_v 0 ⟨_, rfl, qa_cons (q_v 1 ⟨_, rfl, qa_nil ⟨rfl, ⟨_, _, _, _, rfl, hs, sh2.ok, by omega, ⟨rfl, rfl, _, ?_, _, _, _, _, rfl, sh2, ?_, rfl⟩⟩⟩⟩)⟩))))
      · omega
      · rw [List.length_append]
        simp only [List.length_cons, List.length_nil]
        omega
    · have hsp : spotsL ds w' = [] := by
        cases hsp : spotsL ds w' with
        | nil => rfl
        | cons n ns =>
          rw [hsp] at hb
          exact absurd hb (by simp [PyData.eqv, PyData.eqvAll])
      have hns := spots_nil hsp
      have enf : nfW ds w' = nfW ds wk := nfW_eq sh.ev sh.rm
      refine r_cons (s_for 4 ok (qi_range1 B.range (q_len B.len (q_ix (q_v 1 ⟨_, rfl, ⟨_, rfl, q_int ⟨_, _, rfl, rfl, ⟨_, rfl, ⟨_, rfl, ?_, ⟨fun _ => trivial, fun i Γ => ∃ w2 xs x3 x4 x5, Fit ds w' w2 i ∧ xs.length ≤ 400 + i ∧ Γ = [some (.h rooms (eDs ds)), some (.d (eW w2)), some (.o p xs), x3, x4, x5], ⟨w', xs, _, _, _, fit_start sh.ok.len hns, by omega, rfl⟩, fun i d Γ hd iv gh => ?_, fun Γ iv => ?_⟩⟩⟩⟩⟩⟩)))))
      · rw [List.length_map]
        omega
      · obtain ⟨w2, xs, x3, x4, x5, ft, hxs, rfl⟩ := iv
        obtain ⟨i', hi, rfl⟩ := getMap hd
        have hps := ft.ps
        have hii : i' = i ∧ i < w'.passes.length := by
          obtain ⟨h1, h2⟩ := List.getElem?_eq_some_iff.mp hi
          rw [List.length_range, List.length_map] at h1
          rw [List.getElem_range] at h2
          exact ⟨h2.symm, by simpa using h1⟩
        obtain ⟨rfl, hi2⟩ := hii
        have hi3 : i' < w2.passes.length := by
          rw [hps]
          exact hi2
        have ok2 : WOk ds w2 r := ⟨ft.ln, by rw [hps, ft.rm]; exact sh.ok.path⟩
        have ft2 := fit_step hz (fun e he => (ok2.path.mem e he).2) ft hi3
        refine r_cons (s_set 5 (ok.push gh) (q_call G_times_to_fit (hr.mono (by decide)) (qa_cons (q_v 0 ⟨_, rfl, qa_cons (q_v 1 ⟨_, rfl, qa_cons (q_v 4 ⟨_, rfl, qa_nil ⟨rfl, ⟨_, _, _, _, _, rfl, hs, ok2, hi3, ⟨rfl, ?_⟩⟩⟩⟩)⟩)⟩))))
        refine r_one (s_if (qt_cv (c_neI (q_v 5 ⟨_, rfl, ⟨_, rfl, q_int ⟨_, rfl, ⟨_, rfl, ⟨fun hb => ?_, fun hb => ?_⟩⟩⟩⟩⟩))))
        · refine r_cons (s_append 2 rfl (q_tup (qa_cons (q_tup (qa_cons (q_str (qa_cons (q_v 4 ⟨_, rfl, qa_cons (q_v 5 ⟨_, rfl, qa_nil ⟨_, rfl, by simp, qa_cons (q_tup (qa_cons (q_str (qa_cons (q_v 4 ⟨_, rfl, qa_cons (q_sub (q_int ⟨_, rfl, q_v 5 ⟨_, rfl, ⟨_, rfl, qa_nil ⟨_, rfl, by simp, qa_nil ⟨_, rfl, by simp, ⟨_, rfl, by omega, ?_⟩⟩⟩⟩⟩⟩))⟩)))))⟩⟩)⟩))))))))
          exact r_one (s_set 1 (ok.push gh) (q_call G_carry (hr.mono (by decide)) (qa_cons (q_v 0 ⟨_, rfl, qa_cons (q_v 1 ⟨_, rfl, qa_cons (q_v 4 ⟨_, rfl, qa_cons (q_v 5 ⟨_, rfl, qa_nil ⟨rfl, ⟨_, _, _, _, _, _, rfl, hs, ok2, hi3, ⟨rfl, rfl, _, _, _, _, _, ft2, by simp; omega, rfl⟩⟩⟩⟩)⟩)⟩)⟩))))
        · have h0 : w2.pulls.getD i' 0 / lv ds (w2.passes.getD i' (0, 0)) = 0 := by simpa using hb
          rw [h0, carry_zero] at ft2
          exact r_nil ⟨rfl, _, _, _, _, _, ft2, by omega, rfl⟩
      · obtain ⟨w2, xs, x3, x4, x5, ft, hxs, rfl⟩ := iv
        have e := fit_end ft (by rw [ft.ps, List.length_map, List.length_range, List.length_map]; omega)
        rw [← enf, e] at hk
        exact r_one (s_ret (q_tup (qa_cons (q_v 1 ⟨_, rfl, qa_cons (q_v 2 ⟨_, rfl, qa_nil ⟨_, rfl, by simp, ⟨rfl, hk⟩⟩⟩)⟩))))
/-! ### plain_of -/
abbrev s_plain_of : Stmt := topS 67
theorem sc_plain_of : FnScope ["house", "walk"] ["house", "walk"] (defScope s_plain_of) := ⟨rfl, rfl, rfl, by decide +kernel, rfl, by decide +kernel, by decide +kernel⟩
def sp_plain_of : Spc := fun ν as k => ∃ rooms ds wk r, as = [.h rooms (eDs ds), .d (eW wk)] ∧ Hs rooms ds ∧ WOk ds wk r ∧ wk.passes.length ≤ 200 ∧ k ν (.d (eW (nfW ds wk)))
theorem ok_plain_of (A : At K mg "plain_of" s_plain_of) (B : Bi mg) (T : Tx K mg C) (HF : HouseF K C) (G_plain_with_moves : FnG P w K mg base C 4 "plain_with_moves" ["house", "walk"] sp_plain_with_moves) : FnG P w K mg base C 5 "plain_of" ["house", "walk"] sp_plain_of := by
  refine def_g (lev := 4) A sc_plain_of (fun _ _ _ _ _ _ us hl => match us, hl with | [_, _], _ => rfl) (fun ν as k h => ?_) fun f cdv A outer s H E st hr W hW ok ν as k h => ?_
  · obtain ⟨rooms, ds, wk, r, rfl, hs, hw, hl, hk⟩ := h
    rfl
  · obtain ⟨rooms, ds, wk, r, rfl, hs, hw, hl, hk⟩ := h
    subst hW
    refine r_one (s_ret (q_ix (q_call G_plain_with_moves (hr.mono (by decide)) (qa_cons (q_v 0 ⟨_, rfl, qa_cons (q_v 1 ⟨_, rfl, qa_nil ⟨rfl, ⟨_, _, _, _, rfl, hs, hw, hl, ⟨_, rfl, q_int ⟨_, _, rfl, rfl, ⟨rfl, hk⟩⟩⟩⟩⟩⟩)⟩)))))
end
end PF


/-! D7 -/
namespace PF
open PySem PySem.Spec PyProof.Rows L2 QL PR
theorem sIx_neg {n d : Nat} {m : Nat} (hm : 0 < m) : HT.sIx n d (some (-(m : Int))) = n - m := by
  show (if (-(m : Int)) < 0 then (-(m : Int) + (n : Int)).toNat else _) = _
  rw [if_pos (by omega)]
  omega
theorem cut_mid {α : Type} {f : α → D} {xs : List α} {m : Nat} (hm : 0 < m) : QL.cutD (xs.map f) (some 1) (some (-(m : Int))) = ((xs.drop 1).take (xs.length - m - 1)).map f := by
  unfold QL.cutD
  rw [sIx_neg hm]
  have e := HT.sIx_nat (xs.map f).length 0 1
  have e : HT.sIx (xs.map f).length 0 (some 1) = min 1 (xs.map f).length := e
  rw [e, List.length_map, List.map_take, List.map_drop]
  by_cases h : 1 ≤ xs.length
  · rw [Nat.min_eq_left h]
  · have h0 : xs = [] := by
      cases xs with
      | nil => rfl
      | cons x xs => simp at h
    subst h0
    simp
theorem cut_mid1 {α : Type} {f : α → D} {xs : List α} : QL.cutD (xs.map f) (some 1) (some (-1)) = xs.tail.dropLast.map f := by
  rw [show (some (-1 : Int)) = some (-((1 : Nat) : Int)) from rfl, cut_mid (by decide), List.drop_one, List.dropLast_eq_take, List.length_tail]
theorem cut_mid2 {α : Type} {f : α → D} {xs : List α} : QL.cutD (xs.map f) (some 1) (some (-2)) = xs.tail.dropLast.dropLast.map f := by
  rw [show (some (-2 : Int)) = some (-((2 : Nat) : Int)) from rfl, cut_mid (by decide), List.drop_one, List.dropLast_eq_take (l := xs.tail.dropLast), List.dropLast_eq_take, List.take_take, List.length_take, List.length_tail]
  congr 2
  omega
theorem atI_last2 {α : Type} {f : α → D} {xs : List α} (h : 2 ≤ xs.length) (d : α) : atI (xs.map f) (-2) = some (f (xs.dropLast.getLastD d)) := by
  have hn : xs ≠ [] := fun q => by
    rw [q] at h
    simp at h
  obtain ⟨ys, y, rfl⟩ := List.eq_nil_or_concat xs |>.resolve_left hn
  rw [List.concat_eq_append] at h ⊢
  rw [List.length_append] at h
  have hn : ys ≠ [] := fun q => by
    rw [q] at h
    simp at h
  obtain ⟨zs, z, rfl⟩ := List.eq_nil_or_concat ys |>.resolve_left hn
  rw [List.concat_eq_append]
  unfold atI ixN
  have hl : ((zs ++ [z] ++ [y]).map f).length = zs.length + 2 := by simp
  rw [hl, if_neg (by decide), if_pos (by omega)]
  have e : ((-2 : Int) + ((zs.length + 2 : Nat) : Int)).toNat = zs.length := by omega
  show ((zs ++ [z] ++ [y]).map f)[((-2 : Int) + ((zs.length + 2 : Nat) : Int)).toNat]? = _
  rw [e]
  simp
section
variable {P : Program} {w : World} {K : PySem.W.Frag} {mg : Str → Option Value} {base : Heap} {C : Addr}
/-! ### shuts -/
abbrev s_shuts : Stmt := topS 69
theorem sc_shuts : FnScope ["house", "walk", "room", "pulls", "passes"] ["house", "walk"] (defScope s_shuts) := ⟨rfl, rfl, rfl, by decide +kernel, rfl, by decide +kernel, by decide +kernel⟩
def sp_shuts : Spc := fun ν as k => ∃ rooms ds wk r, as = [.h rooms (eDs ds), .d (eW wk)] ∧ Hs rooms ds ∧ WOk ds wk r ∧ k ν (.d (.bool (shutsB ds wk)))
theorem ok_shuts (A : At K mg "shuts" s_shuts) (B : Bi mg) (T : Tx K mg C) (HF : HouseF K C) (G_gate_of : FnG P w K mg base C 1 "gate_of" ["house", "step"] sp_gate_of) (G_is_multiple : FnG P w K mg base C 1 "is_multiple" ["number", "base"] sp_is_multiple) (G_reverses : FnG P w K mg base C 1 "reverses" ["step", "other"] sp_reverses) : FnG P w K mg base C 2 "shuts" ["house", "walk"] sp_shuts := by
  refine def_g (lev := 1) A sc_shuts (fun _ _ _ _ _ _ us hl => match us, hl with | [_, _], _ => rfl) (fun ν as k h => ?_) fun f cdv A outer s H E st hr W hW ok ν as k h => ?_
  · obtain ⟨rooms, ds, wk, r, rfl, hs, hw, hk⟩ := h
    rfl
  · obtain ⟨rooms, ds, wk, r, rfl, hs, hw, hk⟩ := h
    subst hW
    have hpn : wk.pulls ≠ [] := ne_nil_of hw.len
    refine r_cons (s_tup [2, 3, 4] ok (pgs_cons (pg_name (i := 2) ok.nd rfl (.inl rfl)) (pgs_cons (pg_name (i := 3) ok.nd rfl (.inl rfl)) (pgs_cons (pg_name (i := 4) ok.nd rfl (.inl rfl)) (pgs_nil)))) (q_v 1 ⟨_, rfl, ⟨_, rfl, rfl, ?_⟩⟩))
    by_cases h2 : 2 ≤ wk.passes.length
    · have hen : wk.passes ≠ [] := fun q => by
        rw [q] at h2
        simp at h2
      obtain ⟨hpl, _⟩ := path_last hw.path hen
      have hg := gate_dok hs hpl
      have c1 : decide (((wk.passes.map eP).length : Int) < 2) = false := by
        rw [List.length_map]
        exact decide_eq_false (by omega)
      have e1 : shutsB ds wk = (decide (wk.passes.headD (0, 0) = inv (lastP wk)) && decide ((wk.pulls.getLastD 0 + wk.pulls.headD 0) % ar ds (lastP wk) = 0)) := by
        unfold shutsB
        rw [decide_eq_true h2, Bool.true_and]
      by_cases h3 : wk.passes.headD (0, 0) = inv (lastP wk)
      · refine r_cons (s_ifF (qt_w (qw_orF (qt_cv (c_lt (q_len B.len (q_v 4 ⟨_, rfl, ⟨_, rfl, ⟨_, rfl, q_int ⟨_, rfl, ⟨_, rfl, ⟨c1, qw_or1 (qt_notF (qt_v (q_call G_reverses (hr.mono (by decide)) (qa_cons (q_ix (q_v 4 ⟨_, rfl, ⟨_, rfl, q_neg (q_int ⟨_, rfl, ⟨_, _, rfl, atI_lastD hen (0, 0), qa_cons (q_ix (q_v 4 ⟨_, rfl, ⟨_, rfl, q_int ⟨_, _, rfl, atI_headD hen (0, 0), qa_nil ⟨rfl, ⟨_, _, rfl, ⟨_, rfl, ⟨decide_eq_true h3, ?_⟩⟩⟩⟩⟩⟩⟩))⟩⟩)⟩⟩))))))⟩⟩⟩⟩⟩⟩)))))))
        refine r_one (s_ret (q_call G_is_multiple (hr.mono (by decide)) (qa_cons (q_add (q_ix (q_v 3 ⟨_, rfl, ⟨_, rfl, q_neg (q_int ⟨_, rfl, ⟨_, _, rfl, atI_lastD hpn 0, ⟨_, rfl, q_ix (q_v 3 ⟨_, rfl, ⟨_, rfl, q_int ⟨_, _, rfl, atI_headD hpn 0, ⟨_, rfl, qa_cons (q_ix (q_call G_gate_of (hr.mono (by decide)) (qa_cons (q_v 0 ⟨_, rfl, qa_cons (q_ix (q_v 4 ⟨_, rfl, ⟨_, rfl, q_neg (q_int ⟨_, rfl, ⟨_, _, rfl, atI_lastD hen (0, 0), qa_nil ⟨rfl, ⟨_, _, _, rfl, hpl, ⟨_, rfl, q_int ⟨_, _, rfl, rfl, qa_nil ⟨rfl, ⟨_, _, rfl, hg.two, ⟨rfl, ?_⟩⟩⟩⟩⟩⟩⟩⟩⟩)⟩⟩))⟩))))⟩⟩⟩⟩)⟩⟩⟩)⟩⟩))))))
        rw [e1, decide_eq_true h3, Bool.true_and] at hk
        exact hk
      · rw [e1, decide_eq_false h3, Bool.false_and] at hk
        refine r_cons (s_if (qt_w (qw_orF (qt_cv (c_lt (q_len B.len (q_v 4 ⟨_, rfl, ⟨_, rfl, ⟨_, rfl, q_int ⟨_, rfl, ⟨_, rfl, ⟨c1, qw_or1 (qt_not (qt_v (q_call G_reverses (hr.mono (by decide)) (qa_cons (q_ix (q_v 4 ⟨_, rfl, ⟨_, rfl, q_neg (q_int ⟨_, rfl, ⟨_, _, rfl, atI_lastD hen (0, 0), qa_cons (q_ix (q_v 4 ⟨_, rfl, ⟨_, rfl, q_int ⟨_, _, rfl, atI_headD hen (0, 0), qa_nil ⟨rfl, ⟨_, _, rfl, ⟨_, rfl, ⟨fun hb => ?_, fun hb => ?_⟩⟩⟩⟩⟩⟩⟩))⟩⟩)⟩⟩))))))⟩⟩⟩⟩⟩⟩)))))))
        · exact r_one (s_ret (q_bl ⟨rfl, hk⟩))
        · have hb2 : (!decide (wk.passes.headD (0, 0) = inv (wk.passes.getLastD (0, 0)))) = false := hb
          rw [decide_eq_false (show ¬ wk.passes.headD (0, 0) = inv (wk.passes.getLastD (0, 0)) from h3)] at hb2
          cases hb2
    · have c1 : decide (((wk.passes.map eP).length : Int) < 2) = true := by
        rw [List.length_map]
        exact decide_eq_true (by omega)
      have e1 : shutsB ds wk = false := by
        unfold shutsB
        rw [decide_eq_false h2, Bool.false_and]
      rw [e1] at hk
      refine r_cons (s_if (qt_w (qw_orT1 (qt_cv (c_lt (q_len B.len (q_v 4 ⟨_, rfl, ⟨_, rfl, ⟨_, rfl, q_int ⟨_, rfl, ⟨_, rfl, ⟨c1, fun _ => ?_, fun hb => nomatch hb⟩⟩⟩⟩⟩⟩)))))))
      exact r_one (s_ret (q_bl ⟨rfl, hk⟩))
/-! ### inner_walk -/
abbrev s_inner_walk : Stmt := topS 70
theorem sc_inner_walk : FnScope ["house", "walk", "room", "pulls", "passes", "here", "leaving", "there", "arriving", "times", "between"] ["house", "walk"] (defScope s_inner_walk) := ⟨rfl, rfl, rfl, by decide +kernel, rfl, by decide +kernel, by decide +kernel⟩
def sp_inner_walk : Spc := fun ν as k => ∃ rooms ds wk r, as = [.h rooms (eDs ds), .d (eW wk)] ∧ Hs rooms ds ∧ WOk ds wk r ∧ shutsB ds wk = true ∧ wk.passes.length ≤ 200 ∧ k ν (.d (eW (inner ds wk)))
theorem ok_inner_walk (A : At K mg "inner_walk" s_inner_walk) (B : Bi mg) (T : Tx K mg C) (HF : HouseF K C) (G_gate_of : FnG P w K mg base C 1 "gate_of" ["house", "step"] sp_gate_of) : FnG P w K mg base C 2 "inner_walk" ["house", "walk"] sp_inner_walk := by
  refine def_g (lev := 1) A sc_inner_walk (fun _ _ _ _ _ _ us hl => match us, hl with | [_, _], _ => rfl) (fun ν as k h => ?_) fun f cdv A outer s H E st hr W hW ok ν as k h => ?_
  · obtain ⟨rooms, ds, wk, r, rfl, hs, hw, hsh, hl, hk⟩ := h
    rfl
  · obtain ⟨rooms, ds, wk, r, rfl, hs, hw, hsh, hl, hk⟩ := h
    subst hW
    have hlw := hw.len
    have hpn : wk.pulls ≠ [] := ne_nil_of hw.len
    have h2 := shuts_len hsh
    have hen : wk.passes ≠ [] := fun q => by
      rw [q] at h2
      simp at h2
    obtain ⟨hpl, _⟩ := path_last hw.path hen
    have hph : Pas ds (wk.passes.headD (0, 0)) := by
      refine hw.path.mem _ ?_
      cases hp : wk.passes with
      | nil => exact absurd hp hen
      | cons e es => exact List.mem_cons_self
    have hg := gate_dok hs hpl
    have hm : (wk.pulls.getLastD 0 + wk.pulls.headD 0) % ar ds (lastP wk) = 0 := by
      unfold shutsB at hsh
      rw [Bool.and_eq_true_iff, Bool.and_eq_true_iff] at hsh
      exact of_decide_eq_true hsh.2.2
    refine r_cons (s_tup [2, 3, 4] ok (pgs_cons (pg_name (i := 2) ok.nd rfl (.inl rfl)) (pgs_cons (pg_name (i := 3) ok.nd rfl (.inl rfl)) (pgs_cons (pg_name (i := 4) ok.nd rfl (.inl rfl)) (pgs_nil)))) (q_v 1 ⟨_, rfl, ⟨_, rfl, rfl, ?_⟩⟩))
    refine r_cons (s_tup [5, 6, 7, 8] ok (pgs_cons (pg_name (i := 5) ok.nd rfl (.inl rfl)) (pgs_cons (pg_name (i := 6) ok.nd rfl (.inl rfl)) (pgs_cons (pg_name (i := 7) ok.nd rfl (.inl rfl)) (pgs_cons (pg_name (i := 8) ok.nd rfl (.inl rfl)) (pgs_nil))))) (q_call G_gate_of (hr.mono (by decide)) (qa_cons (q_v 0 ⟨_, rfl, qa_cons (q_ix (q_v 4 ⟨_, rfl, ⟨_, rfl, q_neg (q_int ⟨_, rfl, ⟨_, _, rfl, atI_lastD hen (0, 0), qa_nil ⟨rfl, ⟨_, _, _, rfl, hpl, ⟨_, rfl, rfl, ?_⟩⟩⟩⟩⟩)⟩⟩))⟩))))
    refine r_cons (s_set 9 ok (q_fdiv (q_add (q_ix (q_v 3 ⟨_, rfl, ⟨_, rfl, q_neg (q_int ⟨_, rfl, ⟨_, _, rfl, atI_lastD hpn 0, ⟨_, rfl, q_ix (q_v 3 ⟨_, rfl, ⟨_, rfl, q_int ⟨_, _, rfl, atI_headD hpn 0, ⟨_, rfl, ⟨_, rfl, q_v 8 ⟨_, rfl, ⟨_, rfl, sdiv hg.two.1 hg.two.2, ⟨rfl, ?_⟩⟩⟩⟩⟩⟩⟩⟩)⟩⟩⟩)⟩⟩)))))
    refine r_cons (s_set 10 ok (q_cat (q_sl11 (q_v 3 ⟨_, rfl, ⟨_, rfl, q_int ⟨_, rfl, q_neg (q_int ⟨_, rfl, ⟨_, rfl, ⟨_, rfl, q_tup (qa_cons (q_add (q_ix (q_v 3 ⟨_, rfl, ⟨_, rfl, q_neg (q_int ⟨_, rfl, ⟨_, _, rfl, atI_last2 (by omega) 0, ⟨_, rfl, q_mul (q_v 6 ⟨_, rfl, ⟨_, rfl, q_v 9 ⟨_, rfl, ⟨_, rfl, smul hg.one.2, ⟨_, rfl, qa_nil ⟨_, rfl, by simp, ⟨_, rfl, ?_, ⟨rfl, ?_⟩⟩⟩⟩⟩⟩⟩⟩)⟩⟩⟩)⟩⟩))))⟩⟩⟩)⟩⟩⟩))))
    · rw [cut_mid2]
      simp only [List.length_map, List.length_dropLast, List.length_tail, List.length_cons, List.length_nil]
      omega
    refine r_one (s_ret (q_tup (qa_cons (q_ix (q_call G_gate_of (hr.mono (by decide)) (qa_cons (q_v 0 ⟨_, rfl, qa_cons (q_ix (q_v 4 ⟨_, rfl, ⟨_, rfl, q_int ⟨_, _, rfl, atI_headD hen (0, 0), qa_nil ⟨rfl, ⟨_, _, _, rfl, hph, ⟨_, rfl, q_int ⟨_, _, rfl, rfl, qa_cons (q_v 10 ⟨_, rfl, qa_cons (q_sl11 (q_v 4 ⟨_, rfl, ⟨_, rfl, q_int ⟨_, rfl, q_neg (q_int ⟨_, rfl, ⟨_, rfl, qa_nil ⟨_, rfl, by simp, ⟨rfl, ?_⟩⟩⟩⟩)⟩⟩⟩))⟩)⟩⟩⟩⟩⟩⟩⟩))⟩)))))))
    have e2 : eW (inner ds wk) = .tuple [.int (dst ds (wk.passes.headD (0, 0))), .tuple (QL.cutD (wk.pulls.map PyData.int) (some 1) (some (-2)) ++ [.int (wk.pulls.dropLast.getLastD 0 + lv ds (lastP wk) * (wk.pulls.getLastD 0 + wk.pulls.headD 0).fdiv (ar ds (lastP wk)))]), .tuple (QL.cutD (wk.passes.map eP) (some 1) (some (-1)))] := by
      rw [cut_mid1, cut_mid2, fdiv_ex (ar_ne hs.nz _) hm]
      unfold eW inner
      simp only [eIs, ePs, List.map_append, List.map_cons, List.map_nil]
    rw [e2] at hk
    exact hk
end
end PF


/-! D8 -/
namespace PF
open PySem PySem.Spec PyProof.Rows L2 QL PR
theorem take_one {es : List Pass} (h : es ≠ []) : es.take 1 = [es.headD (0, 0)] := by
  cases es with
  | nil => exact absurd rfl h
  | cons e es => rfl
section
variable {P : Program} {w : World} {K : PySem.W.Frag} {mg : Str → Option Value} {base : Heap} {C : Addr}
/-! ### core_with_lead -/
abbrev s_core_with_lead : Stmt := topS 71
theorem sc_core_with_lead : FnScope ["house", "walk", "lead"] ["house", "walk"] (defScope s_core_with_lead) := ⟨rfl, rfl, rfl, by decide +kernel, rfl, by decide +kernel, by decide +kernel⟩
def sp_core_with_lead : Spc := fun ν as k => ∃ rooms ds wk, as = [.h rooms (eDs ds), .d (eW wk)] ∧ Hs rooms ds ∧ WOk ds wk wk.room ∧ wk.passes.length ≤ 100 ∧ ∀ lead, Lead ds wk lead (coreW ds wk) → lead.passes.length ≤ wk.passes.length → k ν (.d (.tuple [eW lead, eW (coreW ds wk)]))
theorem ok_core_with_lead (A : At K mg "core_with_lead" s_core_with_lead) (B : Bi mg) (T : Tx K mg C) (HF : HouseF K C) (G_inner_walk : FnG P w K mg base C 2 "inner_walk" ["house", "walk"] sp_inner_walk) (G_join_of : FnG P w K mg base C 1 "join_of" ["one", "other"] sp_join_of) (G_plain_of : FnG P w K mg base C 5 "plain_of" ["house", "walk"] sp_plain_of) (G_shuts : FnG P w K mg base C 2 "shuts" ["house", "walk"] sp_shuts) (G_standing_in : FnG P w K mg base C 1 "standing_in" ["room"] sp_standing_in) : FnG P w K mg base C 6 "core_with_lead" ["house", "walk"] sp_core_with_lead := by
  refine def_g (lev := 5) A sc_core_with_lead (fun _ _ _ _ _ _ us hl => match us, hl with | [_, _], _ => rfl) (fun ν as k h => ?_) fun f cdv A outer s H E st hr W hW ok ν as k h => ?_
  · obtain ⟨rooms, ds, wk, rfl, hs, hw, hl, hk⟩ := h
    rfl
  · obtain ⟨rooms, ds, wk, rfl, hs, hw, hl, hk⟩ := h
    subst hW
    have hz := hs.nz
    have hln := nfW_len (ds := ds) hw.len
    refine r_cons (s_set 2 ok (q_call G_standing_in (hr.mono (by decide)) (qa_cons (q_ix (q_v 1 ⟨_, rfl, ⟨_, rfl, q_int ⟨_, _, rfl, rfl, qa_nil ⟨rfl, ⟨_, rfl, ⟨rfl, ?_⟩⟩⟩⟩⟩⟩)))))
    refine r_cons (s_set 1 ok (q_call G_plain_of (hr.mono (by decide)) (qa_cons (q_v 0 ⟨_, rfl, qa_cons (q_v 1 ⟨_, rfl, qa_nil ⟨rfl, ⟨_, _, _, _, rfl, hs, hw, by omega, ⟨rfl, ?_⟩⟩⟩⟩)⟩))))
    refine r_cons (s_while (fun m Γ => ∃ lead c, m = c.passes.length ∧ Lead ds wk lead c ∧ Cr ds c ∧ coreOf ds c = coreW ds wk ∧ c.passes.length + 2 * lead.passes.length ≤ wk.passes.length ∧ Γ = [some (.h rooms (eDs ds)), some (.d (eW c)), some (.d (eW lead))]) ok ⟨_, ⟨wk.room, [0], []⟩, nfW ds wk, rfl, lead_start hz hw, cr_nf hz hw, rfl, by simpa using hln, rfl⟩ fun m Γ iv => ?_)
    obtain ⟨lead, c, rfl, L, cr, hc, hle, rfl⟩ := iv
    refine qt_v (q_call G_shuts (hr.mono (by decide)) (qa_cons (q_v 0 ⟨_, rfl, qa_cons (q_v 1 ⟨_, rfl, qa_nil ⟨rfl, ⟨_, _, _, _, rfl, hs, cr.ok, ⟨_, rfl, ⟨rfl, fun hb => ?_, fun hb => ?_⟩⟩⟩⟩⟩)⟩)))
    · have h2 := shuts_len hb
      have hen : c.passes ≠ [] := fun q => by
        rw [q] at h2
        simp at h2
      have hpn : c.pulls ≠ [] := ne_nil_of cr.ok.len
      obtain ⟨cr2, hl2⟩ := cr_next hz cr hb
      obtain ⟨io1, io2, io3⟩ := inner_ok cr.ok hb
      have L2 := lead_next hz L cr hb
      have hl3 := L2.ok.len
      have e3 : QL.cutD (c.passes.map eP) none (some 1) = [c.passes.headD (0, 0)].map eP := by
        rw [← take_one hen]
        exact cut_take (n := 1)
      refine r_cons (s_set 2 ok (q_call G_join_of (hr.mono (by decide)) (qa_cons (q_v 2 ⟨_, rfl, qa_cons (q_tup (qa_cons (q_ix (q_v 1 ⟨_, rfl, ⟨_, rfl, q_int ⟨_, _, rfl, rfl, qa_cons (q_tup (qa_cons (q_ix (q_ix (q_v 1 ⟨_, rfl, ⟨_, rfl, q_int ⟨_, _, rfl, rfl, ⟨_, rfl, q_int ⟨_, _, rfl, atI_headD hpn 0, qa_cons (q_int (qa_nil ⟨_, rfl, by simp, qa_cons (q_sl01 (q_ix (q_v 1 ⟨_, rfl, ⟨_, rfl, q_int ⟨_, _, rfl, rfl, ⟨_, rfl, q_int ⟨_, rfl, qa_nil ⟨_, rfl, by simp, qa_nil ⟨rfl, ⟨lead, firstP c, ?_, ⟨L.ok.len, rfl⟩, ⟨by omega, by show 1 ≤ 200; omega⟩, ⟨rfl, ?_⟩⟩⟩⟩⟩⟩⟩⟩⟩)))⟩))⟩⟩⟩⟩⟩)))))⟩⟩⟩))))⟩))))
      · rw [e3]
        rfl
      refine r_one (s_set 1 ok (q_call G_plain_of (hr.mono (by decide)) (qa_cons (q_v 0 ⟨_, rfl, qa_cons (q_call G_inner_walk (hr.mono (by decide)) (qa_cons (q_v 0 ⟨_, rfl, qa_cons (q_v 1 ⟨_, rfl, qa_nil ⟨rfl, ⟨_, _, _, _, rfl, hs, cr.ok, hb, by omega, qa_nil ⟨rfl, ⟨_, _, _, _, rfl, hs, io1, by omega, ⟨rfl, rfl, _, ?_, _, _, rfl, L2, cr2, ?_, ?_, rfl⟩⟩⟩⟩⟩⟩)⟩)))⟩))))
      · omega
      · rw [← hc, coreOf_next hz cr hb]
      · show _ + 2 * (lead.passes ++ [_]).length ≤ _
        rw [List.length_append]
        simp only [List.length_cons, List.length_nil]
        omega
    · have e := coreOf_stop (show ¬ shutsB ds c = true by rw [hb]; exact Bool.false_ne_true)
      rw [hc] at e
      subst e
      exact r_one (s_ret (q_tup (qa_cons (q_v 2 ⟨_, rfl, qa_cons (q_v 1 ⟨_, rfl, qa_nil ⟨_, rfl, by simp, ⟨rfl, hk lead L (by omega)⟩⟩⟩)⟩))))
/-! ### begun_later -/
abbrev s_begun_later : Stmt := topS 72
theorem sc_begun_later : FnScope ["house", "walk", "many", "room", "pulls", "passes", "later"] ["house", "walk", "many"] (defScope s_begun_later) := ⟨rfl, rfl, rfl, by decide +kernel, rfl, by decide +kernel, by decide +kernel⟩
def sp_begun_later : Spc := fun ν as k => ∃ rooms ds wk, ∃ n : Nat, as = [.h rooms (eDs ds), .d (eW wk), .d (eI n)] ∧ Hs rooms ds ∧ WOk ds wk wk.room ∧ n ≤ wk.passes.length ∧ wk.passes.length ≤ 100 ∧ k ν (.d (eW (turnW ds wk n)))
theorem ok_begun_later (A : At K mg "begun_later" s_begun_later) (B : Bi mg) (T : Tx K mg C) (HF : HouseF K C) (G_gate_of : FnG P w K mg base C 1 "gate_of" ["house", "step"] sp_gate_of) (G_join_of : FnG P w K mg base C 1 "join_of" ["one", "other"] sp_join_of) : FnG P w K mg base C 2 "begun_later" ["house", "walk", "many"] sp_begun_later := by
  refine def_g (lev := 1) A sc_begun_later (fun _ _ _ _ _ _ us hl => match us, hl with | [_, _, _], _ => rfl) (fun ν as k h => ?_) fun f cdv A outer s H E st hr W hW ok ν as k h => ?_
  · obtain ⟨rooms, ds, wk, n, rfl, hs, hw, hn, hl, hk⟩ := h
    rfl
  · obtain ⟨rooms, ds, wk, n, rfl, hs, hw, hn, hl, hk⟩ := h
    subst hW
    have hlw := hw.len
    refine r_cons (s_tup [3, 4, 5] ok (pgs_cons (pg_name (i := 3) ok.nd rfl (.inl rfl)) (pgs_cons (pg_name (i := 4) ok.nd rfl (.inl rfl)) (pgs_cons (pg_name (i := 5) ok.nd rfl (.inl rfl)) (pgs_nil)))) (q_v 1 ⟨_, rfl, ⟨_, rfl, rfl, ?_⟩⟩))
    by_cases h0 : n = 0
    · subst h0
      refine r_cons (s_if (qt_cv (c_eqI (q_v 2 ⟨_, rfl, ⟨_, rfl, q_int ⟨_, rfl, ⟨_, rfl, ⟨fun hb => ?_, fun hb => nomatch hb⟩⟩⟩⟩⟩))))
      exact r_one (s_ret (q_v 1 ⟨_, rfl, ⟨rfl, hk⟩⟩))
    refine r_cons (s_ifF (qt_cv (c_eqI (q_v 2 ⟨_, rfl, ⟨_, rfl, q_int ⟨_, rfl, ⟨_, rfl, ⟨decide_eq_false (by omega), ?_⟩⟩⟩⟩⟩))))
    have hm : n - 1 < wk.passes.length := by omega
    have e1 : atI (wk.passes.map eP) ((n : Int) - 1) = some (eP (wk.passes.getD (n - 1) (0, 0))) := by
      have := atI_getD (n := n - 1) (f := eP) hm (0, 0)
      rw [show ((n - 1 : Nat) : Int) = (n : Int) - 1 by omega] at this
      exact this
    refine r_cons (s_set 6 ok (q_tup (qa_cons (q_ix (q_call G_gate_of (hr.mono (by decide)) (qa_cons (q_v 0 ⟨_, rfl, qa_cons (q_ix (q_v 5 ⟨_, rfl, ⟨_, rfl, q_sub (q_v 2 ⟨_, rfl, ⟨_, rfl, q_int ⟨_, rfl, ⟨_, _, rfl, e1, qa_nil ⟨rfl, ⟨_, _, _, rfl, pas_getD hw hm, ⟨_, rfl, q_int ⟨_, _, rfl, rfl, qa_cons (q_sl10 (q_v 4 ⟨_, rfl, ⟨_, rfl, q_v 2 ⟨_, rfl, ⟨_, rfl, qa_cons (q_sl10 (q_v 5 ⟨_, rfl, ⟨_, rfl, q_v 2 ⟨_, rfl, ⟨_, rfl, qa_nil ⟨_, rfl, by simp, ⟨rfl, ?_⟩⟩⟩⟩⟩⟩))⟩⟩⟩⟩))⟩⟩⟩⟩⟩⟩⟩⟩)⟩⟩))⟩)))))))
    have lo := later_ok hw hn
    have go := gone_ok hw hn
    refine r_one (s_ret (q_call G_join_of (hr.mono (by decide)) (qa_cons (q_v 6 ⟨_, rfl, qa_cons (q_tup (qa_cons (q_v 3 ⟨_, rfl, qa_cons (q_cat (q_sl01 (q_v 4 ⟨_, rfl, ⟨_, rfl, q_v 2 ⟨_, rfl, ⟨_, rfl, ⟨_, rfl, q_tup (qa_cons (q_int (qa_nil ⟨_, rfl, by simp, ⟨_, rfl, ?_, qa_cons (q_sl01 (q_v 5 ⟨_, rfl, ⟨_, rfl, q_v 2 ⟨_, rfl, ⟨_, rfl, qa_nil ⟨_, rfl, by simp, qa_nil ⟨rfl, ⟨laterW ds wk n, goneW wk n, ?_, ⟨lo.len, go.len⟩, ⟨?_, ?_⟩, ⟨rfl, ?_⟩⟩⟩⟩⟩⟩⟩⟩))⟩⟩)))⟩⟩⟩⟩⟩)))⟩)))⟩))))
    · rw [cut_take]
      simp only [List.length_map, List.length_take, List.length_cons, List.length_nil]
      omega
    · rw [cut_take, cut_take, cut_drop, cut_drop]
      unfold laterW goneW roomAt eW
      rw [if_neg h0]
      simp only [eIs, ePs, List.map_append, List.map_cons, List.map_nil]
      rfl
    · show (wk.passes.drop n).length ≤ 200
      rw [List.length_drop]
      omega
    · show (wk.passes.take n).length ≤ 200
      rw [List.length_take]
      omega
    · unfold turnW at hk
      rw [if_neg h0] at hk
      exact hk
end
end PF


/-! D9 -/
namespace PF
open PySem PySem.Spec PyProof.Rows L2 QL PR
theorem fdiv_pos {a b : Int} (h : 0 ≤ b) : a.fdiv b = a / b := Int.fdiv_eq_ediv_of_nonneg _ h
theorem mod_sub {a b : Int} : a - a / b * b = a % b := by
  have := Int.mul_ediv_add_emod a b
  rw [Int.mul_comm] at this
  omega
theorem ifabs (l : Int) : (if l < 0 then -l else l) = (l.natAbs : Int) := by
  split <;> omega
theorem emod_abs (x l : Int) : x % (if l < 0 then -l else l) = x % l := by
  split
  · rw [Int.emod_neg]
  · rfl
theorem enum_get {es : List Pass} {i : Nat} {d : D} (h : (enumD (es.map eP))[i]? = some d) : ∃ e, es[i]? = some e ∧ d = .tuple [.int (i : Int), eP e] := by
  unfold enumD at h
  rw [List.getElem?_map, List.getElem?_zipIdx, List.getElem?_map] at h
  cases he : es[i]? with
  | none =>
    rw [he] at h
    cases h
  | some e =>
    rw [he] at h
    simp at h
    exact ⟨e, rfl, h.symm⟩
theorem sl_bd (n i : Nat) : ((sl n).getD i 0).natAbs ≤ 1 := by
  rw [List.getD_eq_getElem?_getD]
  cases h : (sl n)[i]? with
  | none => decide
  | some x =>
    have hm := List.mem_of_getElem? h
    unfold sl at hm
    rcases List.mem_cons.mp hm with rfl | hm
    · decide
    · rcases List.mem_append.mp hm with hm | hm
      · rw [(List.mem_replicate.mp hm).2]
        decide
      · rw [List.mem_singleton.mp hm]
        decide
theorem atI_lastN {xs : List Int} {n : Nat} (h : xs.length = n + 1) : atI (xs.map PyData.int) (-1) = some (.int (xs.getD n 0)) := by
  have hn : xs ≠ [] := ne_nil_of h
  rw [atI_lastD hn 0]
  obtain ⟨ys, y, rfl⟩ := List.eq_nil_or_concat xs |>.resolve_left hn
  rw [List.concat_eq_append] at h ⊢
  have hl : ys.length = n := by simpa using h
  subst hl
  simp
theorem getD_of {α : Type} {xs : List α} {i : Nat} {x d : α} (h : xs[i]? = some x) : xs.getD i d = x := by
  rw [List.getD_eq_getElem?_getD, h]
  rfl
section
variable {P : Program} {w : World} {K : PySem.W.Frag} {mg : Str → Option Value} {base : Heap} {C : Addr}
/-! ### solved -/
abbrev s_solved : Stmt := topS 15
theorem sc_solved : FnScope ["factor", "rest", "many", "common", "one", "other", "found", "turned", "part"] ["factor", "rest", "many"] (defScope s_solved) := ⟨rfl, rfl, rfl, by decide +kernel, rfl, by decide +kernel, by decide +kernel⟩
def sp_solved : Spc := fun ν as k => ∃ f r m : Int, as = [.d (eI f), .d (eI r), .d (eI m)] ∧ (0 < m ∧ m ≤ 6) ∧ ((∀ x, ¬ (f * x - r) % m = 0) → k ν (.d .none)) ∧ (∀ c, (f * c - r) % m = 0 → 0 ≤ c ∧ c < m → k ν (.d (eI c)))
theorem ok_solved (A : At K mg "solved" s_solved) (B : Bi mg) (T : Tx K mg C) (HF : HouseF K C) : FnG P w K mg base C 1 "solved" ["factor", "rest", "many"] sp_solved := by
  refine def_g (lev := 0) A sc_solved (fun _ _ _ _ _ _ us hl => match us, hl with | [_, _, _], _ => rfl) (fun ν as k h => ?_) fun f cdv A outer s H E st hr W hW ok ν as k h => ?_
  · obtain ⟨F, R, M, rfl, hM, hno, hyes⟩ := h
    rfl
  · obtain ⟨F, R, M, rfl, hM, hno, hyes⟩ := h
    subst hW
    have hMn : 0 < M.natAbs := by omega
    have hg0 : 0 < Nat.gcd F.natAbs M.natAbs := Nat.gcd_pos_of_pos_right _ hMn
    have hg1 : Nat.gcd F.natAbs M.natAbs ≤ M.natAbs := Nat.le_of_dvd hMn (Nat.gcd_dvd_right _ _)
    obtain ⟨g, hg⟩ : ∃ g : Int, g = ((Nat.gcd F.natAbs M.natAbs : Nat) : Int) := ⟨_, rfl⟩
    have hgF : g ∣ F := by
      rw [hg]
      exact Int.natAbs_dvd_natAbs.mp (by rw [Int.natAbs_natCast]; exact Nat.gcd_dvd_left _ _)
    have hgM : g ∣ M := by
      rw [hg]
      exact Int.natAbs_dvd_natAbs.mp (by rw [Int.natAbs_natCast]; exact Nat.gcd_dvd_right _ _)
    have hgp : 0 < g ∧ g ≤ 6 := by omega
    refine r_cons (s_set 3 ok (q_gcd T.gcd (q_v 0 ⟨_, rfl, ⟨_, rfl, q_v 2 ⟨_, rfl, ⟨_, rfl, ⟨rfl, ?_⟩⟩⟩⟩⟩)))
    show RR _ ν _ [some (.d (eI F)), some (.d (eI R)), some (.d (eI M)), some (.d (.int ((Nat.gcd F.natAbs M.natAbs : Nat) : Int))), none, none, none, none, none] _
    rw [← hg]
    by_cases hd : R % g = 0
    · obtain ⟨f', ef⟩ := hgF
      obtain ⟨m', em⟩ := hgM
      obtain ⟨r', er⟩ := Int.dvd_of_emod_eq_zero hd
      have hm' : 0 < m' := by
        rcases Int.lt_or_le 0 m' with h | h
        · exact h
        · have := Int.mul_le_mul_of_nonneg_left h (Int.le_of_lt hgp.1)
          omega
      have hm6 : m' ≤ 6 := by
        have := Int.mul_le_mul_of_nonneg_right (show (1 : Int) ≤ g by omega) (Int.le_of_lt hm')
        omega
      have cop : Int.gcd f' m' = 1 := by
        have e1 : Nat.gcd F.natAbs M.natAbs = g.natAbs * Int.gcd f' m' := by
          rw [ef, em, Int.natAbs_mul, Int.natAbs_mul, Nat.gcd_mul_left]
          rfl
        have e2 : g.natAbs = Nat.gcd F.natAbs M.natAbs := by omega
        rw [← e2] at e1
        have e3 : g.natAbs * 1 = g.natAbs * Int.gcd f' m' := by omega
        exact (Nat.eq_of_mul_eq_mul_left (by omega) e3).symm
      have d1 : F.fdiv g = f' := by rw [ef, Int.mul_fdiv_cancel_left _ (by omega)]
      have d2 : R.fdiv g = r' := by rw [er, Int.mul_fdiv_cancel_left _ (by omega)]
      have d3 : M.fdiv g = m' := by rw [em, Int.mul_fdiv_cancel_left _ (by omega)]
      have c0 : (!decide (R - R.fdiv g * g = 0)) = false := by
        rw [decide_eq_true ((fmod_zero (by omega)).mpr hd)]
        rfl
      refine r_cons (s_ifF (qt_cv (c_neI (q_sub (q_v 1 ⟨_, rfl, ⟨_, rfl, q_mul (q_fdiv (q_v 1 ⟨_, rfl, ⟨_, rfl, q_v 3 ⟨_, rfl, ⟨_, rfl, sdiv (by omega) (by omega), ⟨_, rfl, q_v 3 ⟨_, rfl, ⟨_, rfl, smul' (by omega), ⟨_, rfl, ⟨_, rfl, q_int ⟨_, rfl, ⟨_, rfl, ⟨c0, ?_⟩⟩⟩⟩⟩⟩⟩⟩⟩⟩⟩⟩))⟩⟩)))))
      refine r_cons (s_par3 0 1 2 ok (qa_cons (q_fdiv (q_v 0 ⟨_, rfl, ⟨_, rfl, q_v 3 ⟨_, rfl, ⟨_, rfl, sdiv (by omega) (by omega), qa_cons (q_fdiv (q_v 1 ⟨_, rfl, ⟨_, rfl, q_v 3 ⟨_, rfl, ⟨_, rfl, sdiv (by omega) (by omega), qa_cons (q_fdiv (q_v 2 ⟨_, rfl, ⟨_, rfl, q_v 3 ⟨_, rfl, ⟨_, rfl, sdiv (by omega) (by omega), qa_nil ⟨_, _, _, rfl, rfl, rfl, rfl, ?_⟩⟩⟩⟩⟩))⟩⟩⟩⟩))⟩⟩⟩⟩))))
      rw [d1, d2, d3]
      refine r_cons (s_tup [4, 5, 6, 7] ok (pgs_cons (pg_name (i := 4) ok.nd rfl (.inl rfl)) (pgs_cons (pg_name (i := 5) ok.nd rfl (.inl rfl)) (pgs_cons (pg_name (i := 6) ok.nd rfl (.inl rfl)) (pgs_cons (pg_name (i := 7) ok.nd rfl (.inl rfl)) (pgs_nil))))) (q_tup (qa_cons (q_sub (q_v 0 ⟨_, rfl, ⟨_, rfl, q_mul (q_fdiv (q_v 0 ⟨_, rfl, ⟨_, rfl, q_v 2 ⟨_, rfl, ⟨_, rfl, sdiv (by omega) (by omega), ⟨_, rfl, q_v 2 ⟨_, rfl, ⟨_, rfl, smul' (by omega), ⟨_, rfl, qa_cons (q_v 2 ⟨_, rfl, qa_cons (q_int (qa_cons (q_int (qa_nil ⟨_, rfl, by simp, ⟨_, rfl, rfl, ?_⟩⟩))))⟩)⟩⟩⟩⟩⟩⟩⟩⟩))⟩⟩)))))
      rw [fdiv_pos (Int.le_of_lt hm'), mod_sub]
      refine r_cons (s_while (fun mm Γ => ∃ one other found turned x8, mm = one.toNat ∧ Eu f' m' one other found turned ∧ Γ = [some (.d (eI f')), some (.d (eI r')), some (.d (eI m')), some (.d (eI g)), some (.d (eI one)), some (.d (eI other)), some (.d (eI found)), some (.d (eI turned)), x8]) ok ⟨_, f' % m', m', 1, 0, none, rfl, eu_start hm' cop, rfl⟩ fun mm Γ iv => ?_)
      obtain ⟨one, other, found, turned, x8, rfl, eu, rfl⟩ := iv
      have b1 := eu.o0
      have b2 := eu.o1
      have b3 := eu.om
      have b4 := eu_found eu
      refine qt_cv (c_gt (q_v 4 ⟨_, rfl, ⟨_, rfl, q_int ⟨_, rfl, ⟨_, rfl, ⟨rfl, fun hb => ?_, fun hb => ?_⟩⟩⟩⟩⟩))
      · have hb1 : 1 < one := of_decide_eq_true hb
        have eu2 := eu_step eu hb1
        refine r_cons (s_set 8 ok (q_fdiv (q_v 5 ⟨_, rfl, ⟨_, rfl, q_v 4 ⟨_, rfl, ⟨_, rfl, sdiv (by omega) (by omega), ⟨rfl, ?_⟩⟩⟩⟩⟩)))
        rw [fdiv_pos b1]
        refine r_one (s_tup [4, 5, 6, 7] ok (pgs_cons (pg_name (i := 4) ok.nd rfl (.inl rfl)) (pgs_cons (pg_name (i := 5) ok.nd rfl (.inl rfl)) (pgs_cons (pg_name (i := 6) ok.nd rfl (.inl rfl)) (pgs_cons (pg_name (i := 7) ok.nd rfl (.inl rfl)) (pgs_nil))))) (q_tup (qa_cons (q_sub (q_v 5 ⟨_, rfl, ⟨_, rfl, q_mul (q_v 8 ⟨_, rfl, ⟨_, rfl, q_v 4 ⟨_, rfl, ⟨_, rfl, smul' (by omega), ⟨_, rfl, qa_cons (q_v 4 ⟨_, rfl, qa_cons (q_sub (q_v 7 ⟨_, rfl, ⟨_, rfl, q_mul (q_v 8 ⟨_, rfl, ⟨_, rfl, q_v 6 ⟨_, rfl, ⟨_, rfl, smul' (by omega), ⟨_, rfl, qa_cons (q_v 6 ⟨_, rfl, qa_nil ⟨_, rfl, by simp, ⟨_, rfl, rfl, ⟨rfl, _, ?_, _, _, _, _, _, rfl, eu2, rfl⟩⟩⟩⟩)⟩⟩⟩⟩⟩)⟩⟩))⟩)⟩⟩⟩⟩⟩)⟩⟩)))))
        have := eu2.o1
        have := eu2.o0
        omega
      · have hb1 : ¬ 1 < one := of_decide_eq_false hb
        have fin : ∀ c, m' ∣ f' * c - r' → (F * c - R) % M = 0 := fun c ⟨q, hq⟩ => by
          refine Int.emod_eq_zero_of_dvd ⟨q, ?_⟩
          rw [ef, er, em, Int.mul_assoc, Int.mul_assoc, ← Int.mul_sub, hq]
        have hmM : m' ≤ M := by
          have := Int.mul_le_mul_of_nonneg_right (show (1 : Int) ≤ g by omega) (Int.le_of_lt hm')
          omega
        refine r_one (s_ret (q_ife (qt_cv (c_gt (q_v 2 ⟨_, rfl, ⟨_, rfl, q_int ⟨_, rfl, ⟨_, rfl, ⟨fun hb => q_sub (q_mul (q_v 6 ⟨_, rfl, ⟨_, rfl, q_v 1 ⟨_, rfl, ⟨_, rfl, smul (by omega), ⟨_, rfl, q_mul (q_fdiv (q_mul (q_v 6 ⟨_, rfl, ⟨_, rfl, q_v 1 ⟨_, rfl, ⟨_, rfl, smul (by omega), ⟨_, rfl, q_v 2 ⟨_, rfl, ⟨_, rfl, sdiv (by omega) (by omega), ⟨_, rfl, q_v 2 ⟨_, rfl, ⟨_, rfl, smul' (by omega), ⟨_, rfl, ⟨rfl, ?_⟩⟩⟩⟩⟩⟩⟩⟩⟩⟩⟩⟩)))⟩⟩⟩⟩⟩)), fun hb => q_int ⟨rfl, ?_⟩⟩⟩⟩⟩⟩)))))
        · have hb2 : 1 < m' := of_decide_eq_true hb
          have e1 := eu_end (r := r') eu hb1 hb2
          have p0 := Int.emod_nonneg (found * r') (show m' ≠ 0 by omega)
          have p1 := Int.emod_lt_of_pos (found * r') hm'
          have := hyes _ (fin _ e1) ⟨p0, by omega⟩
          show k ν (.d (.int (found * r' - (found * r').fdiv m' * m')))
          rw [fdiv_pos (Int.le_of_lt hm'), mod_sub]
          exact this
        · have hb2 : ¬ 1 < m' := of_decide_eq_false hb
          have e1 : m' = 1 := by omega
          exact hyes 0 (fin 0 (by rw [e1]; exact Int.one_dvd _)) ⟨Int.le_refl _, by omega⟩
    · have c0 : (!decide (R - R.fdiv g * g = 0)) = true := by
        rw [decide_eq_false (fun q => hd ((fmod_zero (by omega)).mp q))]
        rfl
      have hk := hno fun x hx => hd (Int.emod_eq_zero_of_dvd (by
        have h1 := Int.dvd_trans hgM (Int.dvd_of_emod_eq_zero hx)
        have h2 : g ∣ F * x := Int.dvd_trans hgF (Int.dvd_mul_right _ _)
        have h3 := Int.dvd_sub h2 h1
        have e : F * x - (F * x - R) = R := by omega
        rw [e] at h3
        exact h3))
      refine r_cons (s_if (qt_cv (c_neI (q_sub (q_v 1 ⟨_, rfl, ⟨_, rfl, q_mul (q_fdiv (q_v 1 ⟨_, rfl, ⟨_, rfl, q_v 3 ⟨_, rfl, ⟨_, rfl, sdiv (by omega) (by omega), ⟨_, rfl, q_v 3 ⟨_, rfl, ⟨_, rfl, smul' (by omega), ⟨_, rfl, ⟨_, rfl, q_int ⟨_, rfl, ⟨_, rfl, ⟨fun _ => r_one (s_ret (q_non ⟨rfl, hk⟩)), fun hb => absurd (hb.symm.trans c0) (by decide)⟩⟩⟩⟩⟩⟩⟩⟩⟩⟩⟩⟩))⟩⟩)))))
/-! ### ends_slopes -/
abbrev s_ends_slopes : Stmt := topS 76
theorem sc_ends_slopes : FnScope ["many", "slopes"] ["many"] (defScope s_ends_slopes) := ⟨rfl, rfl, rfl, by decide +kernel, rfl, by decide +kernel, by decide +kernel⟩
def sp_ends_slopes : Spc := fun ν as k => ∃ n : Nat, as = [.d (eI n)] ∧ 0 < n ∧ n ≤ 500 ∧ ∀ p, k ν (.f p ((sl n).map PyData.int))
theorem ok_ends_slopes (A : At K mg "ends_slopes" s_ends_slopes) (B : Bi mg) (T : Tx K mg C) (HF : HouseF K C) : FnG P w K mg base C 1 "ends_slopes" ["many"] sp_ends_slopes := by
  refine def_g (lev := 0) A sc_ends_slopes (fun _ _ _ _ _ _ us hl => match us, hl with | [_], _ => rfl) (fun ν as k h => ?_) fun f cdv A outer s H E st hr W hW ok ν as k h => ?_
  · obtain ⟨n, rfl, hn, hl, hk⟩ := h
    rfl
  · obtain ⟨n, rfl, hn, hl, hk⟩ := h
    subst hW
    refine r_cons (s_set 1 ok (q_rep (q_lst (qa_cons (q_int (qa_nil ⟨_, rfl, by simp, fun p => ⟨_, ⟨rfl, fun _ q => nomatch q⟩, q_add (q_v 0 ⟨_, rfl, ⟨_, rfl, q_int ⟨_, rfl, ⟨n + 1, rfl, by omega, fun p => ⟨rfl, ?_⟩⟩⟩⟩⟩)⟩⟩))))))
    obtain ⟨m, rfl⟩ : ∃ m, n = m + 1 := ⟨n - 1, by omega⟩
    refine r_cons (s_setItem 1 ok rfl (q_add (q_ixL (q_v 1 ⟨_, rfl, ⟨_, rfl, q_int ⟨_, _, rfl, atI_nat (j := 0) rfl, ⟨_, rfl, q_int ⟨_, rfl, ⟨_, rfl, q_int ⟨_, 0, rfl, ixN_lt (n := 0) (by simp), ?_⟩⟩⟩⟩⟩⟩⟩))))
    have e1 : atI ((List.replicate (m + 1 + 1) (datD (.d (.int 0)))).set 0 (.int (0 + 1))) ((m + 1 : Nat) : Int) = some (.int 0) := by
      refine atI_nat ?_
      rw [List.getElem?_set_ne (by omega), List.getElem?_replicate]
      simp
      rfl
    refine r_cons (s_setItem 1 ok rfl (q_sub (q_ixL (q_v 1 ⟨_, rfl, ⟨_, rfl, q_v 0 ⟨_, rfl, ⟨_, _, rfl, e1, ⟨_, rfl, q_int ⟨_, rfl, ⟨_, rfl, q_v 0 ⟨_, rfl, ⟨_, m + 1, rfl, ixN_lt (by simp), ?_⟩⟩⟩⟩⟩⟩⟩⟩⟩))))
    refine r_one (s_ret (q_v 1 ⟨_, rfl, ⟨rfl, ?_⟩⟩))
    have e2 : (sl (m + 1)).map PyData.int = ((List.replicate (m + 1 + 1) (datD (.d (.int 0)))).set 0 (.int (0 + 1))).set (m + 1) (.int (0 - 1)) := by
      unfold sl
      apply List.ext_getElem?
      intro i
      rw [List.getElem?_set, List.getElem?_set]
      cases i with
      | zero => simp
      | succ i =>
        simp only [List.map_cons, List.getElem?_cons_succ, List.map_append, List.map_replicate, List.length_set, List.length_replicate]
        by_cases h : i = m
        · subst h
          simp
        · rw [if_neg (by omega), if_neg (by omega), List.getElem?_replicate]
          by_cases h2 : i < m
          · rw [List.getElem?_append_left (by simpa using h2), List.getElem?_replicate]
            rw [if_pos (by omega), if_pos (by omega)]
            rfl
          · rw [if_neg (by omega), List.getElem?_eq_none]
            simp
            omega
    have := hk p
    rw [e2] at this
    exact this
end
end PF


set_option maxHeartbeats 4000000
/-! D10 -/
namespace PF
open PySem PySem.Spec PyProof.Rows L2 QL PR
theorem sl_mul {s x : Int} (h : s.natAbs ≤ 1) : CMul s x := .inl (by omega)
theorem p12 {n : Nat} (h : n ≤ 6) : (12 : Int) ^ n ≤ 2985984 := by
  match n, h with
  | 0, _ => decide
  | 1, _ => decide
  | 2, _ => decide
  | 3, _ => decide
  | 4, _ => decide
  | 5, _ => decide
  | 6, _ => decide
theorem dok_nat {rooms : Int} {d : Door} (h : DOk rooms d) : d.2.2.2.natAbs ≤ 6 ∧ d.2.1.natAbs ≤ 6 := by
  have := h.one
  have := h.two
  omega
theorem size_eq {g l : Int} : (if l < 0 then -l else l).fdiv ((Nat.gcd g.natAbs l.natAbs : Nat) : Int) = ((l.natAbs / Nat.gcd g.natAbs l.natAbs : Nat) : Int) := by
  rw [ifabs, fdiv_pos (by omega)]
  rfl
section
variable {P : Program} {w : World} {K : PySem.W.Frag} {mg : Str → Option Value} {base : Heap} {C : Addr}
/-! ### row_of_pulls -/
abbrev s_row_of_pulls : Stmt := topS 75
theorem sc_row_of_pulls : FnScope ["house", "passes", "fixed", "slopes", "first", "step", "moved", "more", "at", "one", "gate", "now", "gain", "chosen", "size"] ["house", "passes", "fixed", "slopes"] (defScope s_row_of_pulls) := ⟨rfl, rfl, rfl, by decide +kernel, rfl, by decide +kernel, by decide +kernel⟩
def sp_row_of_pulls : Spc := fun ν as k => ∃ rooms ds es fx r r', as = [.h rooms (eDs ds), .d (ePs es), .b (fx.map PyData.int), .b ((sl es.length).map PyData.int)] ∧ Hs rooms ds ∧ Path ds r es r' ∧ fx.length = es.length + 1 ∧ (0 < es.length ∧ es.length ≤ 6) ∧ ((∀ x, ¬ chain ds es (lin fx (sl es.length) x) 0 = some 0) → k ν (.d .none)) ∧ (∀ x s, chain ds es (lin fx (sl es.length) x) 0 = some 0 → k ν (.d (.tuple [.int x, .int s])))
theorem ok_row_of_pulls (A : At K mg "row_of_pulls" s_row_of_pulls) (B : Bi mg) (T : Tx K mg C) (HF : HouseF K C) (G_gate_of : FnG P w K mg base C 1 "gate_of" ["house", "step"] sp_gate_of) (G_solved : FnG P w K mg base C 1 "solved" ["factor", "rest", "many"] sp_solved) : FnG P w K mg base C 2 "row_of_pulls" ["house", "passes", "fixed", "slopes"] sp_row_of_pulls := by
  refine def_g (lev := 1) A sc_row_of_pulls (fun _ _ _ _ _ _ us hl => match us, hl with | [_, _, _, _], _ => rfl) (fun ν as k h => ?_) fun f cdv A outer s H E st hr W hW ok ν as k h => ?_
  · obtain ⟨rooms, ds, es, fx, r, r', rfl, hs, hp, hf, hl, hno, hyes⟩ := h
    rfl
  · obtain ⟨rooms, ds, es, fx, r, r', rfl, hs, hp, hf, hl, hno, hyes⟩ := h
    subst hW
    have hz := hs.nz
    have hsl : (sl es.length).length = es.length + 1 := sl_len hl.1
    obtain ⟨S, hS⟩ : ∃ S, S = sl es.length := ⟨_, rfl⟩
    rw [← hS] at hno hyes hsl
    have hbd : ∀ i, (S.getD i 0).natAbs ≤ 1 := fun i => by rw [hS]; exact sl_bd _ _
    rw [← hS]
    clear hS
    refine r_cons (s_tup [4, 5, 6, 7] ok (pgs_cons (pg_name (i := 4) ok.nd rfl (.inl rfl)) (pgs_cons (pg_name (i := 5) ok.nd rfl (.inl rfl)) (pgs_cons (pg_name (i := 6) ok.nd rfl (.inl rfl)) (pgs_cons (pg_name (i := 7) ok.nd rfl (.inl rfl)) (pgs_nil))))) (q_tup (qa_cons (q_int (qa_cons (q_int (qa_cons (q_int (qa_cons (q_int (qa_nil ⟨_, rfl, by simp, ⟨_, rfl, rfl, ?_⟩⟩)))))))))))
    refine r_cons (s_forN [8, 9] ok (pgs_cons (pg_name (i := 8) ok.nd rfl (.inl rfl)) (pgs_cons (pg_name (i := 9) ok.nd rfl (.inl rfl)) (pgs_nil))) (qi_enum B.enumerate (q_v 1 ⟨_, rfl, ⟨_, rfl, ⟨fun _ => trivial, fun i Γ => ∃ first step moved more x8 x9 x10 x11 x12 x13 x14, RowI ds es fx S i first step moved more ∧ Γ = [some (.h rooms (eDs ds)), some (.d (ePs es)), some (.b (fx.map PyData.int)), some (.b (S.map PyData.int)), some (.d (eI first)), some (.d (eI step)), some (.d (eI moved)), some (.d (eI more)), x8, x9, x10, x11, x12, x13, x14], ⟨0, 1, 0, 0, _, _, _, _, _, _, _, row_start, rfl⟩, fun i d Γ hd iv => ?_, fun Γ iv => ?_⟩⟩⟩)))
    · obtain ⟨first, step, moved, more, x8, x9, x10, x11, x12, x13, x14, R, rfl⟩ := iv
      obtain ⟨e, he, rfl⟩ := enum_get hd
      refine ⟨_, rfl, rfl, fun gh => ?_⟩
      have hi : i < es.length := (List.getElem?_eq_some_iff.mp he).1
      have hi2 : i + 1 ≤ 6 := by omega
      have ee := getD_of (d := (0, 0)) he
      have hpe := hp.mem e (List.mem_of_getElem? he)
      have hg := gate_dok hs hpe
      have hgn := dok_nat hg
      have ha := abs_of hg.one
      have hln := lv_ne hz e
      have f1 := atI_getD (f := PyData.int) (xs := fx) (n := i) (by omega) 0
      have f2 := atI_getD (f := PyData.int) (xs := S) (n := i) (by omega) 0
      refine r_cons (s_set 10 (ok.push gh) (q_call G_gate_of (hr.mono (by decide)) (qa_cons (q_v 0 ⟨_, rfl, qa_cons (q_v 9 ⟨_, rfl, qa_nil ⟨rfl, ⟨_, _, _, rfl, hpe, ⟨rfl, ?_⟩⟩⟩⟩)⟩))))
      refine r_cons (s_par 11 12 (ok.push gh) (qa_cons (q_add (q_add (q_v 6 ⟨_, rfl, ⟨_, rfl, q_ixL (q_v 2 ⟨_, rfl, ⟨_, rfl, q_v 8 ⟨_, rfl, ⟨_, _, rfl, f1, ⟨_, rfl, ⟨_, rfl, q_mul (q_ixL (q_v 3 ⟨_, rfl, ⟨_, rfl, q_v 8 ⟨_, rfl, ⟨_, _, rfl, f2, ⟨_, rfl, q_v 4 ⟨_, rfl, ⟨_, rfl, sl_mul (hbd i), ⟨_, rfl, qa_cons (q_add (q_v 7 ⟨_, rfl, ⟨_, rfl, q_mul (q_ixL (q_v 3 ⟨_, rfl, ⟨_, rfl, q_v 8 ⟨_, rfl, ⟨_, _, rfl, f2, ⟨_, rfl, q_v 5 ⟨_, rfl, ⟨_, rfl, sl_mul (hbd i), ⟨_, rfl, qa_nil ⟨_, _, rfl, rfl, rfl, ?_⟩⟩⟩⟩⟩⟩⟩⟩⟩))⟩⟩))⟩⟩⟩⟩⟩⟩⟩⟩))⟩⟩⟩⟩⟩⟩)⟩⟩)))))
      obtain ⟨now, en⟩ : ∃ now, now = moved + fx.getD i 0 + S.getD i 0 * first := ⟨_, rfl⟩
      obtain ⟨gain, eg⟩ : ∃ gain, gain = more + S.getD i 0 * step := ⟨_, rfl⟩
      rw [← en, ← eg]
      refine r_cons (s_set 13 (ok.push gh) (q_call G_solved (hr.mono (by decide)) (qa_cons (q_v 12 ⟨_, rfl, qa_cons (q_sub (q_int ⟨_, rfl, q_v 11 ⟨_, rfl, ⟨_, rfl, qa_cons (q_abs B.abs (q_ix (q_v 10 ⟨_, rfl, ⟨_, rfl, q_int ⟨_, _, rfl, rfl, ⟨_, rfl, qa_nil ⟨rfl, ⟨_, _, _, rfl, by omega, fun hx => ⟨rfl, ?_⟩, fun c hc hc2 => ⟨rfl, ?_⟩⟩⟩⟩⟩⟩⟩)))⟩⟩⟩))⟩))))
      · have hn2 := row_none R hi hf hsl (fun k hk => by
          rw [← en, ← eg, ee] at hk
          refine hx k ?_
          have hk' : (now + gain * k) % (gate ds e).2.1 = 0 := hk
          rw [emod_abs, show gain * k - (0 - now) = now + gain * k by omega]
          exact hk')
        exact r_cons (s_if (qt_cv (c_isN (q_v 13 ⟨_, rfl, ⟨_, rfl, rfl, ⟨_, rfl, ⟨fun _ => r_one (s_ret (q_non ⟨rfl, hno hn2⟩)), fun hb => nomatch hb⟩⟩⟩⟩))))
      · refine r_cons (s_ifF (qt_cv (c_isN (q_v 13 ⟨_, rfl, ⟨_, rfl, rfl, ⟨_, rfl, ⟨rfl, ?_⟩⟩⟩⟩))))
        have hgcd : ((Nat.gcd gain.natAbs (gate ds e).2.1.natAbs : Nat) : Int) ≠ 0 ∧ -6 ≤ ((Nat.gcd gain.natAbs (gate ds e).2.1.natAbs : Nat) : Int) ∧ ((Nat.gcd gain.natAbs (gate ds e).2.1.natAbs : Nat) : Int) ≤ 6 := by
          have h0 : 0 < (gate ds e).2.1.natAbs := by
            have := hg.one.1
            omega
          have h1 := Nat.gcd_pos_of_pos_right gain.natAbs h0
          have h2 := Nat.le_of_dvd h0 (Nat.gcd_dvd_right gain.natAbs _)
          have := hgn.2
          omega
        refine r_cons (s_set 14 (ok.push gh) (q_fdiv (q_abs B.abs (q_ix (q_v 10 ⟨_, rfl, ⟨_, rfl, q_int ⟨_, _, rfl, rfl, ⟨_, rfl, ⟨_, rfl, q_gcd T.gcd (q_v 12 ⟨_, rfl, ⟨_, rfl, q_ix (q_v 10 ⟨_, rfl, ⟨_, rfl, q_int ⟨_, _, rfl, rfl, ⟨_, rfl, ⟨_, rfl, sdiv hgcd.1 hgcd.2, ⟨rfl, ?_⟩⟩⟩⟩⟩⟩)⟩⟩)⟩⟩⟩⟩⟩)))))
        rw [size_eq]
        obtain ⟨z1, z2, z3, z4⟩ := gcd_size (gain := gain) hg.one.1
        obtain ⟨size, hsz⟩ : ∃ size : Int, size = (((gate ds e).2.1.natAbs / Nat.gcd gain.natAbs (gate ds e).2.1.natAbs : Nat) : Int) := ⟨_, rfl⟩
        rw [← hsz] at z1 z2 z3 z4
        rw [← hsz]
        have k0 : (now + gain * c) % (gate ds e).2.1 = 0 := by
          rw [emod_abs, show gain * c - (0 - now) = now + gain * c by omega] at hc
          exact hc
        have hset := fun k => solve_set (now := now) (gain := gain) (l := lv ds e) (chosen := c) (size := size) hln z1 k0 z3 z4 k
        have R2 := row_next hz (by rw [ee]; exact hgn.1) R hi hf hsl (hbd i) en eg z1 (by have := hgn.2; omega) (by rw [ee]; exact z2) (by rw [ee]; exact hset)
        rw [ee] at R2
        have c6 : -6 ≤ c ∧ c ≤ 6 := by omega
        have s6 : -6 ≤ size ∧ size ≤ 6 := by
          have := hgn.2
          omega
        refine r_cons (s_par 4 5 (ok.push gh) (qa_cons (q_add (q_v 4 ⟨_, rfl, ⟨_, rfl, q_mul (q_v 5 ⟨_, rfl, ⟨_, rfl, q_v 13 ⟨_, rfl, ⟨_, rfl, smul' c6, ⟨_, rfl, qa_cons (q_mul (q_v 5 ⟨_, rfl, ⟨_, rfl, q_v 14 ⟨_, rfl, ⟨_, rfl, smul' s6, qa_nil ⟨_, _, rfl, rfl, rfl, ?_⟩⟩⟩⟩⟩))⟩⟩⟩⟩⟩)⟩⟩))))
        refine r_cons (s_set 6 (ok.push gh) (q_mul (q_fdiv (q_add (q_v 11 ⟨_, rfl, ⟨_, rfl, q_mul (q_v 12 ⟨_, rfl, ⟨_, rfl, q_v 13 ⟨_, rfl, ⟨_, rfl, smul' c6, ⟨_, rfl, ⟨_, rfl, q_ix (q_v 10 ⟨_, rfl, ⟨_, rfl, q_int ⟨_, _, rfl, rfl, ⟨_, rfl, sdiv hg.one.1 hg.one.2, ⟨_, rfl, q_ix (q_v 10 ⟨_, rfl, ⟨_, rfl, q_int ⟨_, _, rfl, rfl, ⟨_, rfl, smul' hg.two.2, ⟨rfl, ?_⟩⟩⟩⟩⟩)⟩⟩⟩⟩⟩)⟩⟩⟩⟩⟩⟩)⟩⟩)))))
        refine r_one (s_set 7 (ok.push gh) (q_mul (q_fdiv (q_mul (q_v 12 ⟨_, rfl, ⟨_, rfl, q_v 14 ⟨_, rfl, ⟨_, rfl, smul' s6, ⟨_, rfl, q_ix (q_v 10 ⟨_, rfl, ⟨_, rfl, q_int ⟨_, _, rfl, rfl, ⟨_, rfl, sdiv hg.one.1 hg.one.2, ⟨_, rfl, q_ix (q_v 10 ⟨_, rfl, ⟨_, rfl, q_int ⟨_, _, rfl, rfl, ⟨_, rfl, smul' hg.two.2, ⟨rfl, ?_⟩⟩⟩⟩⟩)⟩⟩⟩⟩⟩)⟩⟩⟩⟩⟩)))))
        rw [fdiv_ex hg.one.1 k0, fdiv_ex hg.one.1 z3]
        exact ⟨rfl, _, _, _, _, _, _, _, _, _, _, _, R2, rfl⟩
    · obtain ⟨first, step, moved, more, x8, x9, x10, x11, x12, x13, x14, R, rfl⟩ := iv
      rw [enumD_length, List.length_map] at R
      have hend := row_last R hf hsl
      have f1 := atI_lastN hf
      have f2 := atI_lastN hsl
      have hst := R.pos
      have hbb := R.bd
      have h12 := p12 hl.2
      refine r_cons (s_par 11 12 ok (qa_cons (q_add (q_add (q_v 6 ⟨_, rfl, ⟨_, rfl, q_ixL (q_v 2 ⟨_, rfl, ⟨_, rfl, q_neg (q_int ⟨_, rfl, ⟨_, _, rfl, f1, ⟨_, rfl, ⟨_, rfl, q_mul (q_ixL (q_v 3 ⟨_, rfl, ⟨_, rfl, q_neg (q_int ⟨_, rfl, ⟨_, _, rfl, f2, ⟨_, rfl, q_v 4 ⟨_, rfl, ⟨_, rfl, sl_mul (hbd _), ⟨_, rfl, qa_cons (q_add (q_v 7 ⟨_, rfl, ⟨_, rfl, q_mul (q_ixL (q_v 3 ⟨_, rfl, ⟨_, rfl, q_neg (q_int ⟨_, rfl, ⟨_, _, rfl, f2, ⟨_, rfl, q_v 5 ⟨_, rfl, ⟨_, rfl, sl_mul (hbd _), ⟨_, rfl, qa_nil ⟨_, _, rfl, rfl, rfl, ?_⟩⟩⟩⟩⟩⟩⟩)⟩⟩))⟩⟩))⟩⟩⟩⟩⟩⟩)⟩⟩))⟩⟩⟩⟩)⟩⟩)⟩⟩)))))
      have hgb : (more + S.getD es.length 0 * step).natAbs ≤ 2985984 := by
        have e1 := Int.natAbs_add_le more (S.getD es.length 0 * step)
        rw [Int.natAbs_mul] at e1
        have e2 : (S.getD es.length 0).natAbs * step.natAbs ≤ 1 * step.natAbs := Nat.mul_le_mul_right _ (hbd _)
        omega
      obtain ⟨now, en⟩ : ∃ now, now = moved + fx.getD es.length 0 + S.getD es.length 0 * first := ⟨_, rfl⟩
      obtain ⟨gain, eg⟩ : ∃ gain, gain = more + S.getD es.length 0 * step := ⟨_, rfl⟩
      rw [← eg] at hgb
      rw [← en, ← eg]
      simp only [← en, ← eg] at hend
      by_cases h0 : gain = 0
      · refine r_cons (s_if (qt_cv (c_eqI (q_v 12 ⟨_, rfl, ⟨_, rfl, q_int ⟨_, rfl, ⟨_, rfl, ⟨fun hb => ?_, fun hb => absurd h0 (of_decide_eq_false hb)⟩⟩⟩⟩⟩))))
        refine r_one (s_ret (q_ife (qt_cv (c_eqI (q_v 11 ⟨_, rfl, ⟨_, rfl, q_int ⟨_, rfl, ⟨_, rfl, ⟨fun hb => q_tup (qa_cons (q_mod (q_v 4 ⟨_, rfl, ⟨_, rfl, q_v 5 ⟨_, rfl, ⟨_, rfl, by omega, qa_cons (q_v 5 ⟨_, rfl, qa_nil ⟨_, rfl, by simp, ⟨rfl, ?_⟩⟩⟩)⟩⟩⟩⟩))), fun hb => q_non ⟨rfl, ?_⟩⟩⟩⟩⟩⟩)))))
        · have hnow : now = 0 := of_decide_eq_true hb
          refine hyes _ _ ((hend _).mpr ⟨-(first.fdiv step), ?_, ?_⟩)
          · have := Int.mul_fdiv_add_fmod first step
            rw [Int.mul_neg]
            omega
          · rw [hnow, h0, Int.zero_mul]
            rfl
        · have hnow : ¬ now = 0 := of_decide_eq_false hb
          refine hno fun x hx => ?_
          obtain ⟨k, _, h2⟩ := (hend x).mp hx
          rw [h0, Int.zero_mul] at h2
          omega
      · refine r_cons (s_ifF (qt_cv (c_eqI (q_v 12 ⟨_, rfl, ⟨_, rfl, q_int ⟨_, rfl, ⟨_, rfl, ⟨decide_eq_false h0, ?_⟩⟩⟩⟩⟩))))
        have hcd : CDivN now gain := ⟨h0, by omega⟩
        have hcm : CMul (now.fdiv gain) step := .inr (by omega)
        refine r_one (s_ret (q_ife (qt_cv (c_eqI (q_mod (q_v 11 ⟨_, rfl, ⟨_, rfl, q_v 12 ⟨_, rfl, ⟨_, rfl, h0, ⟨_, rfl, q_int ⟨_, rfl, ⟨_, rfl, ⟨fun hb => q_tup (qa_cons (q_sub (q_v 4 ⟨_, rfl, ⟨_, rfl, q_mul (q_fdiv (q_v 11 ⟨_, rfl, ⟨_, rfl, q_v 12 ⟨_, rfl, ⟨_, rfl, hcd, ⟨_, rfl, q_v 5 ⟨_, rfl, ⟨_, rfl, hcm, ⟨_, rfl, qa_cons (q_int (qa_nil ⟨_, rfl, by simp, ⟨rfl, ?_⟩⟩))⟩⟩⟩⟩⟩⟩⟩⟩))⟩⟩))), fun hb => q_non ⟨rfl, ?_⟩⟩⟩⟩⟩⟩⟩⟩⟩))))))
        · have hnow : now.fmod gain = 0 := of_decide_eq_true hb
          refine hyes _ _ ((hend _).mpr ⟨-(now.fdiv gain), ?_, ?_⟩)
          · rw [Int.mul_neg, Int.mul_comm step]
            omega
          · have := Int.mul_fdiv_add_fmod now gain
            rw [Int.mul_neg]
            omega
        · have hnow : ¬ now.fmod gain = 0 := of_decide_eq_false hb
          refine hno fun x hx => ?_
          obtain ⟨k, _, h2⟩ := (hend x).mp hx
          refine hnow (Int.fmod_eq_zero_of_dvd ⟨-k, ?_⟩)
          rw [Int.mul_neg]
          omega
end
end PF


set_option maxHeartbeats 4000000
/-! D11 -/
namespace PF
open PySem PySem.Spec PyProof.Rows L2 QL PR
theorem eqv_Ps (a b : List Pass) : PyData.eqv (ePs a) (ePs b) = decide (a = b) := eqv_low Low.h Low.h ⟨fun h => map_inj (fun _ _ q => eP_inj q) (by simpa using h), fun h => by rw [h]⟩
theorem eqv_Ps0 (a : List Pass) : PyData.eqv (ePs a) (.tuple (List.map datD [])) = decide (a = []) := eqv_Ps a []
theorem zip_diff : ∀ {a b : List Int} {acc : List D}, Paired (fun d y => ∃ x z : Int, d = .tuple [.int x, .int z] ∧ y = .int (z - x)) (zipD (a.map PyData.int) (b.map PyData.int)) acc → acc = (diff b a).map PyData.int
  | [], b, acc, h => by
    unfold zipD at h
    rw [List.map_nil, List.zipWith_nil_left] at h
    cases h
    unfold diff
    rw [List.zipWith_nil_right]
    rfl
  | x :: a, [], acc, h => by
    unfold zipD at h
    rw [List.map_nil, List.zipWith_nil_right] at h
    cases h
    rfl
  | x :: a, z :: b, acc, h => by
    unfold zipD at h
    rw [List.map_cons, List.map_cons, List.zipWith_cons_cons] at h
    cases h with
    | cons q r =>
      obtain ⟨x', z', h1, h2⟩ := q
      have e := zip_diff (a := a) (b := b) r
      simp only [PyData.tuple.injEq, List.cons.injEq, PyData.int.injEq, and_true] at h1
      rw [e, h2, ← h1.1, ← h1.2]
      rfl
theorem zip_get {a b : List Int} {i : Nat} {d : D} (h : (zipD (a.map PyData.int) (b.map PyData.int))[i]? = some d) : ∃ x z : Int, d = .tuple [.int x, .int z] := by
  unfold zipD at h
  rw [List.getElem?_zipWith, List.getElem?_map, List.getElem?_map] at h
  cases h1 : a[i]? with
  | none =>
    rw [h1] at h
    cases h
  | some x =>
    cases h2 : b[i]? with
    | none =>
      rw [h1, h2] at h
      cases h
    | some z =>
      rw [h1, h2] at h
      simp at h
      exact ⟨x, z, h.symm⟩
theorem zip_len {a b : List D} : (zipD a b).length ≤ a.length := by
  unfold zipD
  rw [List.length_zipWith]
  omega
theorem diff_len {a b : List Int} (h : b.length = a.length) : (diff b a).length = a.length := by
  unfold diff
  rw [List.length_zipWith, h]
  omega
instance (x s : Int) : Lows [.tuple [.int x, .int s]] := ⟨rfl⟩
section
variable {P : Program} {w : World} {K : PySem.W.Frag} {mg : Str → Option Value} {base : Heap} {C : Addr}
/-! ### rows_joining -/
abbrev s_rows_joining : Stmt := topS 77
theorem sc_rows_joining : FnScope ["house", "one", "other", "fixed", "row", "own", "theirs"] ["house", "one", "other"] (defScope s_rows_joining) := ⟨rfl, rfl, rfl, by decide +kernel, rfl, by decide +kernel, by decide +kernel⟩
def sp_rows_joining : Spc := fun ν as k => ∃ rooms ds u v r, as = [.h rooms (eDs ds), .d (eW u), .d (eW v)] ∧ Hs rooms ds ∧ WOk ds u r ∧ u.passes.length ≤ 200 ∧ v.pulls.length = v.passes.length + 1 ∧ (0 < v.passes.length ∧ v.passes.length ≤ 6) ∧ ((∀ x, ¬ Joins ds u v x) → ∀ p, k ν (.f p [])) ∧ (∀ x s, Joins ds u v x → ∀ p, k ν (.f p [.tuple [.int x, .int s]]))
theorem ok_rows_joining (A : At K mg "rows_joining" s_rows_joining) (B : Bi mg) (T : Tx K mg C) (HF : HouseF K C) (G_ends_slopes : FnG P w K mg base C 1 "ends_slopes" ["many"] sp_ends_slopes) (G_row_of_pulls : FnG P w K mg base C 2 "row_of_pulls" ["house", "passes", "fixed", "slopes"] sp_row_of_pulls) : FnG P w K mg base C 3 "rows_joining" ["house", "one", "other"] sp_rows_joining := by
  refine def_g (lev := 2) A sc_rows_joining (fun _ _ _ _ _ _ us hl => match us, hl with | [_, _, _], _ => rfl) (fun ν as k h => ?_) fun f cdv A outer s H E st hr W hW ok ν as k h => ?_
  · obtain ⟨rooms, ds, u, v, r, rfl, hs, hu, hul, hv, hl, hno, hyes⟩ := h
    rfl
  · obtain ⟨rooms, ds, u, v, r, rfl, hs, hu, hul, hv, hl, hno, hyes⟩ := h
    subst hW
    by_cases hh : u.room = v.room ∧ u.passes = v.passes
    · obtain ⟨h1, h2⟩ := hh
      have c1 : (!PyData.eqv (ePs u.passes) (ePs v.passes)) = false := by
        rw [eqv_Ps, decide_eq_true h2]
        rfl
      have c0 : (!decide (u.room = v.room)) = false := by
        rw [decide_eq_true h1]
        rfl
      refine r_cons (s_ifF (qt_w (qw_orF (qt_cv (c_neI (q_ix (q_v 1 ⟨_, rfl, ⟨_, rfl, q_int ⟨_, _, rfl, rfl, ⟨_, rfl, q_ix (q_v 2 ⟨_, rfl, ⟨_, rfl, q_int ⟨_, _, rfl, rfl, ⟨_, rfl, ⟨_, rfl, ⟨c0, qw_or1 (qt_cv (c_neP (q_ix (q_v 1 ⟨_, rfl, ⟨_, rfl, q_int ⟨_, _, rfl, rfl, ⟨_, rfl, Low.h, q_ix (q_v 2 ⟨_, rfl, ⟨_, rfl, q_int ⟨_, _, rfl, rfl, ⟨_, rfl, Low.h, ⟨_, rfl, ⟨c1, ?_⟩⟩⟩⟩⟩⟩)⟩⟩⟩⟩)) ok))⟩⟩⟩⟩⟩⟩)⟩⟩⟩⟩)))))))
      have hul := hu.len
      have hpl : u.pulls.length = v.pulls.length := by rw [hul, hv, h2]
      refine r_cons (s_setLc 3 ok (qcN [5, 6] (own := [("own", 5), ("theirs", 6)]) (fun d y => ∃ x z : Int, d = .tuple [.int x, .int z] ∧ y = .int (z - x)) ok rfl (qi_zip B.zip (q_ix (q_v 1 ⟨_, rfl, ⟨_, rfl, q_int ⟨_, _, rfl, rfl, ⟨_, rfl, q_ix (q_v 2 ⟨_, rfl, ⟨_, rfl, q_int ⟨_, _, rfl, rfl, ⟨_, rfl, ⟨trivial, ?_, fun i d hd => ?_, fun acc hacc p => ⟨rfl, ?_⟩⟩⟩⟩⟩⟩)⟩⟩⟩⟩))) (hg := (fun _ _ _ _ _ => pgs_cons (pg_name (i := 5) ok.nd rfl (.inl rfl)) (pgs_cons (pg_name (i := 6) ok.nd rfl (.inl rfl)) (pgs_nil))))))
      · refine Nat.le_trans zip_len ?_
        rw [List.length_map]
        have := hl.2
        rw [h2] at hul
        omega
      · obtain ⟨x, z, rfl⟩ := zip_get hd
        exact ⟨_, rfl, rfl, fun gh s H C cl fp => q_sub (q_v 6 ⟨_, rfl, ⟨_, rfl, q_v 5 ⟨_, rfl, ⟨_, rfl, ⟨rfl, _, rfl, _, _, rfl, rfl⟩⟩⟩⟩⟩)⟩
      have hacc := zip_diff hacc
      subst hacc
      refine r_cons (s_set 4 ok (q_call G_row_of_pulls (hr.mono (by decide)) (qa_cons (q_v 0 ⟨_, rfl, qa_cons (q_ix (q_v 1 ⟨_, rfl, ⟨_, rfl, q_int ⟨_, _, rfl, rfl, qa_cons (q_v 3 ⟨_, rfl, qa_cons (q_call G_ends_slopes (hr.mono (by decide)) (qa_cons (q_len B.len (q_ix (q_v 1 ⟨_, rfl, ⟨_, rfl, q_int ⟨_, _, rfl, rfl, ⟨_, rfl, qa_nil ⟨rfl, ⟨_, rfl, ?_, ?_, fun p2 => qa_nil ⟨rfl, ⟨rooms, ds, u.passes, diff v.pulls u.pulls, u.room, r, ?_, hs, hu.path, ?_, ⟨?_, ?_⟩, fun hx => ⟨rfl, ?_⟩, fun x s hx => ⟨rfl, ?_⟩⟩⟩⟩⟩⟩⟩⟩⟩)))))⟩)⟩⟩⟩))⟩))))
      · rw [List.length_map, h2]
        exact hl.1
      · rw [List.length_map, h2]
        omega
      · rw [List.length_map]
        rfl
      · rw [diff_len hpl.symm, hul]
      · rw [h2]
        exact hl.1
      · rw [h2]
        exact hl.2
      · refine r_one (s_ret (q_ife (qt_cv (c_isN (q_v 4 ⟨_, rfl, ⟨_, rfl, rfl, ⟨_, rfl, ⟨fun hb => q_lst (qa_nil ⟨_, rfl, by simp, fun p => ⟨rfl, hno (fun x j => hx x j.chain) p⟩⟩), fun hb => nomatch hb⟩⟩⟩⟩)))))
      · refine r_one (s_ret (q_ife (qt_cv (c_isN (q_v 4 ⟨_, rfl, ⟨_, rfl, rfl, ⟨_, rfl, ⟨fun hb => (nomatch hb), fun hb => q_lst (qa_cons (q_v 4 ⟨_, rfl, qa_nil ⟨_, rfl, by simp, fun p => ⟨rfl, hyes x s ⟨h1, h2, hx⟩ p⟩⟩⟩))⟩⟩⟩⟩)))))
    · have hk := hno fun x j => hh ⟨j.room, j.passes⟩
      by_cases h1 : u.room = v.room
      · have c1 : (!PyData.eqv (ePs u.passes) (ePs v.passes)) = true := by
          rw [eqv_Ps, decide_eq_false (fun q => hh ⟨h1, q⟩)]
          rfl
        have c0 : (!decide (u.room = v.room)) = false := by
          rw [decide_eq_true h1]
          rfl
        exact r_cons (s_if (qt_w (qw_orF (qt_cv (c_neI (q_ix (q_v 1 ⟨_, rfl, ⟨_, rfl, q_int ⟨_, _, rfl, rfl, ⟨_, rfl, q_ix (q_v 2 ⟨_, rfl, ⟨_, rfl, q_int ⟨_, _, rfl, rfl, ⟨_, rfl, ⟨_, rfl, ⟨c0, qw_or1 (qt_cv (c_neP (q_ix (q_v 1 ⟨_, rfl, ⟨_, rfl, q_int ⟨_, _, rfl, rfl, ⟨_, rfl, Low.h, q_ix (q_v 2 ⟨_, rfl, ⟨_, rfl, q_int ⟨_, _, rfl, rfl, ⟨_, rfl, Low.h, ⟨_, rfl, ⟨fun _ => r_one (s_ret (q_lst (qa_nil ⟨_, rfl, by simp, fun p => ⟨rfl, hk p⟩⟩))), fun hb => absurd (hb.symm.trans c1) (by decide)⟩⟩⟩⟩⟩⟩)⟩⟩⟩⟩)) ok))⟩⟩⟩⟩⟩⟩)⟩⟩⟩⟩)))))))
      · have c0 : (!decide (u.room = v.room)) = true := by
          rw [decide_eq_false h1]
          rfl
        exact r_cons (s_if (qt_w (qw_orT1 (qt_cv (c_neI (q_ix (q_v 1 ⟨_, rfl, ⟨_, rfl, q_int ⟨_, _, rfl, rfl, ⟨_, rfl, q_ix (q_v 2 ⟨_, rfl, ⟨_, rfl, q_int ⟨_, _, rfl, rfl, ⟨_, rfl, ⟨_, rfl, ⟨c0, fun _ => r_one (s_ret (q_lst (qa_nil ⟨_, rfl, by simp, fun p => ⟨rfl, hk p⟩⟩))), fun hb => nomatch hb⟩⟩⟩⟩⟩⟩)⟩⟩⟩⟩)))))))
/-! ### gone_lead -/
abbrev s_gone_lead : Stmt := topS 80
theorem sc_gone_lead : FnScope ["house", "one", "other", "many", "rows"] ["house", "one", "other"] (defScope s_gone_lead) := ⟨rfl, rfl, rfl, by decide +kernel, rfl, by decide +kernel, by decide +kernel⟩
def sp_gone_lead : Spc := fun ν as k => ∃ rooms ds c m, as = [.h rooms (eDs ds), .d (eW c), .d (eW m)] ∧ Hs rooms ds ∧ Cr ds c ∧ m.pulls.length = m.passes.length + 1 ∧ c.passes.length = m.passes.length ∧ (0 < c.passes.length ∧ c.passes.length ≤ 6) ∧ (¬ Due ds c m → k ν (.d .none)) ∧ (∀ n x, n < c.passes.length → Joins ds (nfW ds (turnW ds c n)) m x → k ν (.d (eW (midW c n x))))
theorem ok_gone_lead (A : At K mg "gone_lead" s_gone_lead) (B : Bi mg) (T : Tx K mg C) (HF : HouseF K C) (G_begun_later : FnG P w K mg base C 2 "begun_later" ["house", "walk", "many"] sp_begun_later) (G_plain_of : FnG P w K mg base C 5 "plain_of" ["house", "walk"] sp_plain_of) (G_rows_joining : FnG P w K mg base C 3 "rows_joining" ["house", "one", "other"] sp_rows_joining) : FnG P w K mg base C 6 "gone_lead" ["house", "one", "other"] sp_gone_lead := by
  refine def_g (lev := 5) A sc_gone_lead (fun _ _ _ _ _ _ us hl => match us, hl with | [_, _, _], _ => rfl) (fun ν as k h => ?_) fun f cdv A outer s H E st hr W hW ok ν as k h => ?_
  · obtain ⟨rooms, ds, c, m, rfl, hs, hc, hm, hcm, hl, hno, hyes⟩ := h
    rfl
  · obtain ⟨rooms, ds, c, m, rfl, hs, hc, hm, hcm, hl, hno, hyes⟩ := h
    subst hW
    have hz := hs.nz
    refine r_cons (s_for 3 ok (qi_range1 B.range (q_len B.len (q_ix (q_v 1 ⟨_, rfl, ⟨_, rfl, q_int ⟨_, _, rfl, rfl, ⟨_, rfl, ⟨_, rfl, ?_, ⟨fun _ => trivial, fun i Γ => ∃ x3 x4, (∀ j, j < i → ∀ x, ¬ Joins ds (nfW ds (turnW ds c j)) m x) ∧ Γ = [some (.h rooms (eDs ds)), some (.d (eW c)), some (.d (eW m)), x3, x4], ⟨_, _, fun j hj => absurd hj (by omega), rfl⟩, fun i d Γ hd iv gh => ?_, fun Γ iv => ?_⟩⟩⟩⟩⟩⟩)))))
    · rw [List.length_map]
      omega
    · obtain ⟨x3, x4, hj, rfl⟩ := iv
      obtain ⟨i', hi, rfl⟩ := getMap hd
      have hii : i' = i ∧ i < c.passes.length := by
        obtain ⟨h1, h2⟩ := List.getElem?_eq_some_iff.mp hi
        rw [List.length_range, List.length_map] at h1
        rw [List.getElem_range] at h2
        exact ⟨h2.symm, by simpa using h1⟩
      obtain ⟨rfl, hi2⟩ := hii
      have t1 := turn_ok hz hc.ok (m := i') (by omega)
      have t2 := turn_np hc.ok (m := i') (by omega) hz
      have t3 := nfW_ok hz t1
      have t4 := nfW_len (ds := ds) t1.len
      refine r_cons (s_set 4 (ok.push gh) (q_call G_rows_joining (hr.mono (by decide)) (qa_cons (q_v 0 ⟨_, rfl, qa_cons (q_call G_plain_of (hr.mono (by decide)) (qa_cons (q_v 0 ⟨_, rfl, qa_cons (q_call G_begun_later (hr.mono (by decide)) (qa_cons (q_v 0 ⟨_, rfl, qa_cons (q_v 1 ⟨_, rfl, qa_cons (q_v 3 ⟨_, rfl, qa_nil ⟨rfl, ⟨_, _, _, i', rfl, hs, hc.ok, by omega, by omega, qa_nil ⟨rfl, ⟨_, _, _, _, rfl, hs, t1, by omega, qa_cons (q_v 2 ⟨_, rfl, qa_nil ⟨rfl, ⟨_, _, _, _, _, rfl, hs, t3, by omega, hm, by omega, fun hx p => ⟨rfl, ?_⟩, fun x s hx p => ⟨rfl, ?_⟩⟩⟩⟩)⟩⟩⟩⟩⟩)⟩)⟩)))⟩)))⟩))))
      · refine r_one (s_ifF (qt_cv (c_neNl (q_v 4 ⟨_, rfl, ⟨_, rfl, Lows.h, ⟨_, rfl, ⟨rfl, ?_⟩⟩⟩⟩) (ok.push gh))))
        refine ⟨rfl, _, _, fun j hj2 => ?_, rfl⟩
        by_cases e : j = i'
        · rw [e]
          exact hx
        · exact hj j (by omega)
      · refine r_one (s_if (qt_cv (c_neNl (q_v 4 ⟨_, rfl, ⟨_, rfl, Lows.h, ⟨_, rfl, ⟨fun _ => ?_, fun hb => nomatch hb⟩⟩⟩⟩) (ok.push gh))))
        refine r_one (s_ret (q_tup (qa_cons (q_ix (q_v 1 ⟨_, rfl, ⟨_, rfl, q_int ⟨_, _, rfl, rfl, qa_cons (q_cat (q_sl01 (q_ix (q_v 1 ⟨_, rfl, ⟨_, rfl, q_int ⟨_, _, rfl, rfl, ⟨_, rfl, q_v 3 ⟨_, rfl, ⟨_, rfl, ⟨_, rfl, q_tup (qa_cons (q_ix (q_ixL (q_v 4 ⟨_, rfl, ⟨_, rfl, q_int ⟨_, _, rfl, rfl, ⟨_, rfl, q_int ⟨_, _, rfl, rfl, qa_nil ⟨_, rfl, by simp, ⟨_, rfl, ?_, qa_cons (q_sl01 (q_ix (q_v 1 ⟨_, rfl, ⟨_, rfl, q_int ⟨_, _, rfl, rfl, ⟨_, rfl, q_v 3 ⟨_, rfl, ⟨_, rfl, qa_nil ⟨_, rfl, by simp, ⟨rfl, ?_⟩⟩⟩⟩⟩⟩⟩⟩)))⟩⟩⟩⟩⟩⟩⟩))))⟩⟩⟩⟩⟩⟩⟩))))⟩⟩⟩)))))
        · rw [cut_take]
          simp only [List.length_map, List.length_take, List.length_cons, List.length_nil]
          omega
        · have hk := hyes i' x hi2 hx
          have e : eW (midW c i' x) = .tuple [.int c.room, .tuple (QL.cutD (c.pulls.map PyData.int) none (some (i' : Int)) ++ [.int x]), .tuple (QL.cutD (c.passes.map eP) none (some (i' : Int)))] := by
            rw [cut_take, cut_take]
            unfold eW midW
            simp only [eIs, ePs, List.map_append, List.map_cons, List.map_nil]
          rw [e] at hk
          exact hk
    · obtain ⟨x3, x4, hj, rfl⟩ := iv
      refine r_one (s_ret (q_non ⟨rfl, hno fun ⟨n, hn, x, hx⟩ => hj n ?_ x hx⟩))
      rw [List.length_map, List.length_range, List.length_map]
      omega
end
end PF


set_option maxHeartbeats 4000000
/-! D12 -/
namespace PF
open PySem PySem.Spec PyProof.Rows L2 QL PR
section
variable {P : Program} {w : World} {K : PySem.W.Frag} {mg : Str → Option Value} {base : Heap} {C : Addr}
/-! ### lead_between -/
abbrev s_lead_between : Stmt := topS 81
theorem sc_lead_between : FnScope ["house", "one", "other", "first", "core", "second", "mate", "middle"] ["house", "one", "other"] (defScope s_lead_between) := ⟨rfl, rfl, rfl, by decide +kernel, rfl, by decide +kernel, by decide +kernel⟩
def sp_lead_between : Spc := fun ν as k => ∃ rooms ds one other, as = [.h rooms (eDs ds), .d (eW one), .d (eW other)] ∧ Hs rooms ds ∧ (WOk ds one one.room ∧ WOk ds other other.room) ∧ ((0 ≤ one.room ∧ one.room < rooms) ∧ 0 ≤ other.room ∧ other.room < rooms) ∧ (one.passes.length ≤ 40 ∧ other.passes.length ≤ 40) ∧ ¬ ((coreW ds one).passes = [] ∧ (coreW ds other).passes = []) ∧ ((coreW ds one).passes.length = (coreW ds other).passes.length → (coreW ds one).passes.length ≤ 6) ∧ (¬ ((coreW ds one).passes.length = (coreW ds other).passes.length ∧ Due ds (coreW ds one) (coreW ds other)) → k ν (.d .none)) ∧ (∀ found : Walk, (coreW ds one).passes.length = (coreW ds other).passes.length → Due ds (coreW ds one) (coreW ds other) → found.passes.length ≤ one.passes.length + 6 + other.passes.length → WOk ds found other.room → found.room = one.room → Eqv ds (found.wd ++ other.wd ++ winv found.wd) one.wd → k ν (.d (eW found)))
theorem ok_lead_between (A : At K mg "lead_between" s_lead_between) (B : Bi mg) (T : Tx K mg C) (HF : HouseF K C) (G_back_of : FnG P w K mg base C 3 "back_of" ["house", "walk"] sp_back_of) (G_core_with_lead : FnG P w K mg base C 6 "core_with_lead" ["house", "walk"] sp_core_with_lead) (G_gone_lead : FnG P w K mg base C 6 "gone_lead" ["house", "one", "other"] sp_gone_lead) (G_join_of : FnG P w K mg base C 1 "join_of" ["one", "other"] sp_join_of) (G_need_home : FnG P w K mg base C 7 "need_home" ["house", "walk"] sp_need_home) (G_need_house : FnG P w K mg base C 1 "need_house" ["house"] sp_need_house) (G_plain_of : FnG P w K mg base C 5 "plain_of" ["house", "walk"] sp_plain_of) : FnG P w K mg base C 8 "lead_between" ["house", "one", "other"] sp_lead_between := by
  refine def_g (lev := 7) A sc_lead_between (fun _ _ _ _ _ _ us hl => match us, hl with | [_, _, _], _ => rfl) (fun ν as k h => ?_) fun f cdv A outer s H E st hr W hW ok ν as k h => ?_
  · obtain ⟨rooms, ds, one, other, rfl, hs, hw, hr0, hl, hne, h6, hno, hyes⟩ := h
    rfl
  · obtain ⟨rooms, ds, one, other, rfl, hs, hw, hr0, hl, hne, h6, hno, hyes⟩ := h
    subst hW
    have hz := hs.nz
    obtain ⟨cr1, cl1⟩ := coreW_cr hz hw.1
    obtain ⟨cr2, cl2⟩ := coreW_cr hz hw.2
    refine r_cons (s_expr (q_call G_need_house (hr.mono (by decide)) (qa_cons (q_v 0 ⟨_, rfl, qa_nil ⟨rfl, ⟨_, _, rfl, ?_⟩⟩⟩))))
    refine r_cons (s_expr (q_call G_need_home (hr.mono (by decide)) (qa_cons (q_v 0 ⟨_, rfl, qa_cons (q_v 1 ⟨_, rfl, qa_nil ⟨rfl, ⟨_, _, _, rfl, hw.1, hr0.1, by omega, ?_⟩⟩⟩)⟩))))
    refine r_cons (s_expr (q_call G_need_home (hr.mono (by decide)) (qa_cons (q_v 0 ⟨_, rfl, qa_cons (q_v 2 ⟨_, rfl, qa_nil ⟨rfl, ⟨_, _, _, rfl, hw.2, hr0.2, by omega, ?_⟩⟩⟩)⟩))))
    refine r_cons (s_tup [3, 4] ok (pgs_cons (pg_name (i := 3) ok.nd rfl (.inl rfl)) (pgs_cons (pg_name (i := 4) ok.nd rfl (.inl rfl)) (pgs_nil))) (q_call G_core_with_lead (hr.mono (by decide)) (qa_cons (q_v 0 ⟨_, rfl, qa_cons (q_v 1 ⟨_, rfl, qa_nil ⟨rfl, ⟨_, _, _, rfl, hs, hw.1, by omega, fun first L1 ll1 => ⟨_, rfl, rfl, ?_⟩⟩⟩⟩)⟩))))
    refine r_cons (s_tup [5, 6] ok (pgs_cons (pg_name (i := 5) ok.nd rfl (.inl rfl)) (pgs_cons (pg_name (i := 6) ok.nd rfl (.inl rfl)) (pgs_nil))) (q_call G_core_with_lead (hr.mono (by decide)) (qa_cons (q_v 0 ⟨_, rfl, qa_cons (q_v 2 ⟨_, rfl, qa_nil ⟨rfl, ⟨_, _, _, rfl, hs, hw.2, by omega, fun second L2 ll2 => ⟨_, rfl, rfl, ?_⟩⟩⟩⟩)⟩))))
    obtain ⟨core, hcore⟩ : ∃ core, core = coreW ds one := ⟨_, rfl⟩
    obtain ⟨mate, hmate⟩ : ∃ mate, mate = coreW ds other := ⟨_, rfl⟩
    rw [← hcore] at cr1 cl1 hne h6 hno hyes L1
    rw [← hmate] at cr2 cl2 hne h6 hno hyes L2
    rw [← hcore, ← hmate]
    by_cases he : core.passes.length = mate.passes.length
    · have c0 : (!decide (((core.passes.map eP).length : Int) = ((mate.passes.map eP).length : Int))) = false := by
        rw [List.length_map, List.length_map, he]
        simp
      have hn0 : core.passes ≠ [] := fun q => by
        refine hne ⟨q, ?_⟩
        rw [q] at he
        exact List.eq_nil_of_length_eq_zero he.symm
      have hlen : 0 < core.passes.length := List.length_pos_iff.mpr hn0
      have c1 : PyData.eqv (ePs core.passes) (.tuple (List.map datD [])) = false := by
        rw [eqv_Ps0]
        exact decide_eq_false hn0
      have h66 := h6 he
      refine r_cons (s_ifF (qt_cv (c_neI (q_len B.len (q_ix (q_v 4 ⟨_, rfl, ⟨_, rfl, q_int ⟨_, _, rfl, rfl, ⟨_, rfl, ⟨_, rfl, q_len B.len (q_ix (q_v 6 ⟨_, rfl, ⟨_, rfl, q_int ⟨_, _, rfl, rfl, ⟨_, rfl, ⟨_, rfl, ⟨_, rfl, ⟨c0, ?_⟩⟩⟩⟩⟩⟩⟩))⟩⟩⟩⟩⟩))))))
      refine r_cons (s_ifF (qt_w (qw_andF1 (qt_cv (c_eqP (q_ix (q_v 4 ⟨_, rfl, ⟨_, rfl, q_int ⟨_, _, rfl, rfl, ⟨_, rfl, Low.h, q_tup (qa_nil ⟨_, rfl, by simp, ⟨_, rfl, Low.h, ⟨_, rfl, ⟨c1, rfl, ?_⟩⟩⟩⟩)⟩⟩⟩⟩)) ok)))))
      refine r_cons (s_set 7 ok (q_ife ?_))
      refine qt_cv (c_eqP ?_ ok)
      refine q_ix (q_v 4 ⟨_, rfl, ⟨_, rfl, q_int ⟨_, _, rfl, rfl, ⟨_, rfl, Low.h, ?_⟩⟩⟩⟩)
      refine q_tup (qa_nil ⟨_, rfl, by simp, ⟨_, rfl, Low.h, ⟨_, rfl, ⟨fun hb => ?_, fun hb => ?_⟩⟩⟩⟩)
      · exact absurd (hb.symm.trans c1) (by decide)
      refine q_call G_gone_lead (hr.mono (by decide)) (qa_cons (q_v 0 ⟨_, rfl, qa_cons (q_v 4 ⟨_, rfl, qa_cons (q_v 6 ⟨_, rfl, qa_nil ⟨rfl, ⟨_, _, _, _, rfl, hs, cr1, cr2.ok.len, he, ⟨hlen, h66⟩, fun hnd => ⟨rfl, ?_⟩, fun n x hn hx => ⟨rfl, ?_⟩⟩⟩⟩)⟩)⟩))
      · exact r_cons (s_if (qt_cv (c_isN (q_v 7 ⟨_, rfl, ⟨_, rfl, rfl, ⟨_, rfl, ⟨fun _ => r_one (s_ret (q_non ⟨rfl, hno fun h => hnd h.2⟩)), fun hb => (nomatch hb)⟩⟩⟩⟩))))
      · refine r_cons (s_ifF (qt_cv (c_isN (q_v 7 ⟨_, rfl, ⟨_, rfl, rfl, ⟨_, rfl, ⟨rfl, ?_⟩⟩⟩⟩))))
        have mo := mid_ok (x := x) cr1.ok (m := n) (by omega)
        have hl1 := L1.ok.len
        have hl2 := L2.ok.len
        have j1 := join_ok L1.ok mo rfl
        have bo := bk_ok L2.ok
        have er : mate.room = roomAt ds core n := by
          rw [← hx.room]
          exact turn_room
        have bo' : WOk ds (second.bk mate.room) other.room := by
          rw [← L2.room]
          exact bo
        have j2 := join_ok j1 bo' er
        have ml : (midW core n x).passes.length ≤ 6 := by
          show (core.passes.take n).length ≤ 6
          rw [List.length_take]
          omega
        have jl1 : (first.join (midW core n x)).passes.length ≤ one.passes.length + 6 := by
          show (first.passes ++ (midW core n x).passes).length ≤ one.passes.length + 6
          rw [List.length_append]
          omega
        have bl : (second.bk mate.room).passes.length ≤ other.passes.length := by
          show (second.passes.reverse.map inv).length ≤ other.passes.length
          rw [List.length_map, List.length_reverse]
          omega
        have jl2 : ((first.join (midW core n x)).join (second.bk mate.room)).passes.length ≤ one.passes.length + 6 + other.passes.length := by
          show ((first.join (midW core n x)).passes ++ (second.bk mate.room).passes).length ≤ one.passes.length + 6 + other.passes.length
          rw [List.length_append]
          omega
        have fl := nfW_len (ds := ds) j2.len
        obtain ⟨f1, f2, f3⟩ := lead_joins hz L1 L2 cr1.ok cr2.ok hw.1 hw.2 hn hx he
        have hk := hyes _ he ⟨n, hn, x, hx⟩ (by omega) f1 f2 f3
        exact r_one (s_ret (q_call G_plain_of (hr.mono (by decide)) (qa_cons (q_v 0 ⟨_, rfl, qa_cons (q_call G_join_of (hr.mono (by decide)) (qa_cons (q_call G_join_of (hr.mono (by decide)) (qa_cons (q_v 3 ⟨_, rfl, qa_cons (q_v 7 ⟨_, rfl, qa_nil ⟨rfl, ⟨first, midW core n x, rfl, ⟨hl1, mo.len⟩, ⟨by omega, by omega⟩, qa_cons (q_call G_back_of (hr.mono (by decide)) (qa_cons (q_v 0 ⟨_, rfl, qa_cons (q_v 5 ⟨_, rfl, qa_nil ⟨rfl, ⟨_, _, _, _, rfl, L2.ok, by omega, qa_nil ⟨rfl, ⟨_, _, rfl, ⟨j1.len, bo.len⟩, ⟨by omega, by omega⟩, qa_nil ⟨rfl, ⟨_, _, _, _, rfl, hs, j2, by omega, ⟨rfl, hk⟩⟩⟩⟩⟩⟩⟩⟩)⟩)))⟩⟩⟩)⟩)))))⟩))))
    · have c0 : (!decide (((core.passes.map eP).length : Int) = ((mate.passes.map eP).length : Int))) = true := by
        rw [List.length_map, List.length_map, decide_eq_false (by omega)]
        rfl
      exact r_cons (s_if (qt_cv (c_neI (q_len B.len (q_ix (q_v 4 ⟨_, rfl, ⟨_, rfl, q_int ⟨_, _, rfl, rfl, ⟨_, rfl, ⟨_, rfl, q_len B.len (q_ix (q_v 6 ⟨_, rfl, ⟨_, rfl, q_int ⟨_, _, rfl, rfl, ⟨_, rfl, ⟨_, rfl, ⟨_, rfl, ⟨fun _ => r_one (s_ret (q_non ⟨rfl, hno fun h => he h.1⟩)), fun hb => absurd (hb.symm.trans c0) (by decide)⟩⟩⟩⟩⟩⟩⟩))⟩⟩⟩⟩⟩))))))
end
end PF


set_option maxHeartbeats 4000000
/-! D13 -/
namespace PF
open PySem PySem.Spec PyProof.Rows L2 QL PR
theorem erase_perm {α : Type} : ∀ {xs : List α} {m : Nat}, m < xs.length → ∀ d, xs.Perm (xs.getD m d :: xs.eraseIdx m)
  | x :: xs, 0, _, d => .refl _
  | x :: xs, m + 1, h, d => by
    have := erase_perm (xs := xs) (m := m) (by simpa using h) d
    exact ((this.cons x).trans (.swap _ _ _))
  | [], _, h, _ => by simp at h
section
variable {ν ν' : Nat} {W : Wx} {σ : L2.St} {Γ : Ga} {H H1 H2 : Hp} {Q : VK} {e : Expr} {pos p1 p2 p3 p4 p5 p6 : Pos} {p q : Addr} {P : Po}
/-- found.append(left.pop(e)) -/
theorem s_appendPop (i j : Nat) {nm nm2 : Str} {xs ys : List D} (hΓ : Γ[i]? = some (some (.o p xs))) (hΓ2 : Γ[j]? = some (some (.o q ys))) (hij : i ≠ j) (h : QE W ν Γ e fun ν1 z => ∃ (n : Int) (m : Nat) (d : D), z = .d (.int n) ∧ (0 ≤ n ∧ n < 100000) ∧ n.toNat = m ∧ ys[m]? = some d ∧ xs.length < 1000 ∧ P.nx ν1 ((Γ.set j (some (.o q (ys.eraseIdx m)))).set i (some (.o p (xs ++ [d])))))
    (hN : W.X.N[i]? = some nm := by rfl) (hv : Vis W.X.env.scope nm := by first | exact Or.inl rfl | exact Or.inr (Or.inl rfl) | exact Or.inr (Or.inr rfl)) (hN2 : W.X.N[j]? = some nm2 := by rfl) (hv2 : Vis W.X.env.scope nm2 := by first | exact Or.inl rfl | exact Or.inr (Or.inl rfl) | exact Or.inr (Or.inr rfl))
    (hd : (nm == ("__debug__" : Str)) = false := by decide) (hcd : (nm == ("__classdict__" : Str)) = false := by decide) (hd2 : (nm2 == ("__debug__" : Str)) = false := by decide) (hcd2 : (nm2 == ("__classdict__" : Str)) = false := by decide)
    (hbase : attributeBase (.Name nm p1) "append" W.X.env (eval (.Name nm p1) W.X.env) = eval (.Name nm p1) W.X.env := by rfl) (hbase2 : attributeBase (.Name nm2 p4) "pop" W.X.env (eval (.Name nm2 p4) W.X.env) = eval (.Name nm2 p4) W.X.env := by rfl)
    (hfew : ((backTo p2 (starEach ([.Call (.Attribute (.Name nm2 p4) "pop" p5) [e] [] p6]) W.X.env)).all (fun x => !x.1) && (backToKw p2 (keywordEach [] W.X.env)).all (fun x => x.1.isSome)
      && decide (([Expr.Call (.Attribute (.Name nm2 p4) "pop" p5) [e] [] p6]).length + ([] : List Keyword).length + (if ([] : List Keyword).isEmpty then 0 else 1) < 30)) = true := by rfl)
    (hfew2 : ((backTo p6 (starEach ([e]) W.X.env)).all (fun x => !x.1) && (backToKw p6 (keywordEach [] W.X.env)).all (fun x => x.1.isSome)
      && decide (([e] : List Expr).length + ([] : List Keyword).length + (if ([] : List Keyword).isEmpty then 0 else 1) < 30)) = true := by rfl)
    (hline : (p3.endLine == p2.line) = true := by rfl) (hline2 : (p5.endLine == p6.line) = true := by rfl)
    (hs : starEach [.Call (.Attribute (.Name nm2 p4) "pop" p5) [e] [] p6] W.X.env = (false, eval (.Call (.Attribute (.Name nm2 p4) "pop" p5) [e] [] p6) W.X.env) :: starEach [] W.X.env := by rfl) (hs2 : starEach [e] W.X.env = (false, eval e W.X.env) :: starEach [] W.X.env := by rfl)
    (hsw : swapsWith (.Call (.Attribute (.Name nm p1) "append" p3) [.Call (.Attribute (.Name nm2 p4) "pop" p5) [e] [] p6] [] p2) none pos.line W.X.env = pure false := by rfl) :
    R1 W ν (.Expr (.Call (.Attribute (.Name nm p1) "append" p3) [.Call (.Attribute (.Name nm2 p4) "pop" p5) [e] [] p6] [] p2) pos) Γ P := fun σ H D r E => by
  refine wps_of (ps_expr (pe_bm PySem.F.plainAttrs_list PySem.F.slot_list_append PySem.F.type_list_append mt_append (pe_var hN hv hd hcd)
    (pa_cons (pe_bm PySem.F.plainAttrs_list PySem.F.slot_list_pop PySem.F.type_list_pop mt_popAt (pe_var hN2 hv2 hd2 hcd2) (pa_cons pe_wp pa_nil hs2) hbase2 hfew2 hline2 hs2 rfl) pa_nil hs) hbase hfew hline hs rfl) hsw) ?_
  obtain ⟨v, hv1, ⟨rfl, vs, hl, hi⟩, _⟩ := r.get hΓ
  refine ⟨_, hv1, .inl ⟨rfl, vs, .inl (.inl hl)⟩, ?_⟩
  obtain ⟨u, hu1, ⟨rfl, us, hul, hui⟩, _⟩ := r.get hΓ2
  refine ⟨_, hu1, .inl ⟨rfl, us, .inl (.inl hul)⟩, ?_⟩
  refine h σ H _ r fun v H1 z r1 e1 i1 f1 n1 ⟨n, m, d, ez, hn, hm, hd, hlen, hk⟩ => ?_
  subst ez
  rw [Im.intI i1]
  obtain ⟨v', hv1', ⟨rfl, vs', hl', hi'⟩, _⟩ := r1.get hΓ
  obtain ⟨u', hu1', ⟨rfl, us', hul', hui'⟩, _⟩ := r1.get hΓ2
  obtain ⟨y, hy, iy⟩ := hui'.get hd
  have hml : m < us'.length := (List.getElem?_eq_some_iff.mp hy).1
  have hsi : seqIndex? n us'.length = some m := by
    have h1 : ¬ n < 0 := by omega
    have h2 : n < (us'.length : Int) := by omega
    unfold seqIndex?
    simp [h1, h2, hn.1, hm]
  have hpq : p ≠ q := fun e => hij (adr_inj r1.nd hΓ hΓ2 rfl (by rw [e]; rfl))
  refine ⟨q, us', n, m, y, rfl, rfl, hul', by omega, by omega, hsi, hy, ?_⟩
  have r2 := Rs.updO r1 hΓ2 hul' (hui'.erase m)
  have hl2 : upd H1 q (.lst (us'.eraseIdx m)) p = some (.lst vs') := by
    rw [upd_ne hpq]
    exact hl'
  have hΓ3 : (Γ.set j (some (.o q (ys.eraseIdx m))))[i]? = some (some (.o p xs)) := by
    rw [List.getElem?_set_ne (fun e => hij e.symm)]
    exact hΓ
  refine ⟨p, vs', y, rfl, rfl, hl2, ?_, ?_⟩
  · rw [hi'.length]
    exact Nat.lt_trans hlen (by decide)
  · exact E.nx σ _ _ (Rs.updO r2 hΓ3 hl2 ((hi'.kp (.mutL hul')).app (.cons (iy.kp (.mutL hul')) .nil))) hk
end
section
variable {P : Program} {w : World} {K : PySem.W.Frag} {mg : Str → Option Value} {base : Heap} {C : Addr}
/-! ### _law_blended -/
abbrev s__law_blended : Stmt := topS 84
theorem sc__law_blended : FnScope ["_law_state", "_law_turn", "_law_found", "_law_prime", "_law_blend", "_law_cell"] ["_law_state"] (defScope s__law_blended) := ⟨rfl, rfl, rfl, by decide +kernel, rfl, by decide +kernel, by decide +kernel⟩
def sp__law_blended : Spc := fun ν as k => as = [.s] ∧ ν ≤ 1000000000 ∧ ∀ r : Int, 0 ≤ r → k (ν + 1) (.d (eI r))
theorem ok__law_blended (A : At K mg "_law_blended" s__law_blended) (B : Bi mg) (T : Tx K mg C) (HF : HouseF K C) : FnG P w K mg base C 1 "_law_blended" ["_law_state"] sp__law_blended := by
  refine def_g (lev := 0) A sc__law_blended (fun _ _ _ _ _ _ us hl => match us, hl with | [_], _ => rfl) (fun ν as k h => ?_) fun f cdv A outer s H E st hr W hW ok ν as k h => ?_
  · obtain ⟨rfl, hν, hk⟩ := h
    rfl
  · obtain ⟨rfl, hν, hk⟩ := h
    subst hW
    refine r_cons (s_par 1 2 ok (qa_cons (q_add (q_turn 0 ok rfl fun t ht0 ht1 => ⟨_, rfl, q_int ⟨_, rfl, qa_cons (q_int (qa_nil ⟨_, _, rfl, rfl, rfl, ?_⟩))⟩⟩))))
    refine r_cons (s_putTurn 0 ok rfl (q_v 1 ⟨_, rfl, t + 1, ν + 1, rfl, by omega, by omega, ?_⟩))
    refine r_cons (s_for 3 ok (qi_lst (q_lst (qa_cons (q_int (qa_cons (q_int (qa_cons (q_int (qa_nil ⟨_, rfl, by simp, fun p => ⟨_, rfl, rfl, ⟨fun _ => trivial, fun i Γ => ∃ found x3 x4 x5, 0 ≤ found ∧ Γ = [some .s, some (.d (eI (t + 1))), some (.d (eI found)), x3, x4, x5], ⟨0, _, _, _, Int.le_refl _, rfl⟩, fun i d Γ hd iv gh => ?_, fun Γ iv => ?_⟩⟩⟩))))))))))
    · obtain ⟨found, x3, x4, x5, hf, rfl⟩ := iv
      obtain ⟨pr, rfl, hp⟩ : ∃ pr : Int, d = .int pr ∧ 2147483549 ≤ pr ∧ pr ≤ 2147483587 := by
        match i, hd with
        | 0, hd =>
          cases hd
          exact ⟨_, rfl, by decide, by decide⟩
        | 1, hd =>
          cases hd
          exact ⟨_, rfl, by decide, by decide⟩
        | 2, hd =>
          cases hd
          exact ⟨_, rfl, by decide, by decide⟩
      refine r_cons (s_set 4 (ok.push gh) (q_add (q_mul (q_int ⟨_, rfl, q_v 1 ⟨_, rfl, ⟨_, rfl, .inl (by decide), ⟨_, rfl, q_fdiv (q_v 3 ⟨_, rfl, ⟨_, rfl, q_int ⟨_, rfl, ⟨by decide, by decide⟩, ⟨_, rfl, ⟨rfl, ?_⟩⟩⟩⟩⟩)⟩⟩⟩⟩))))
      have hdv : 0 ≤ pr.fdiv 61 ∧ pr.fdiv 61 ≤ 2147483587 := by
        rw [fdiv_pos (by decide)]
        omega
      refine r_cons (s_for 5 (ok.push gh) (qi_cells 0 (ok.push gh) rfl fun ns => ⟨fun _ => trivial, fun i Γ => ∃ b x5, (0 ≤ b ∧ b < 1000000000000000000) ∧ Γ = [some .s, some (.d (eI (t + 1))), some (.d (eI found)), some (.d (.int pr)), some (.d (eI b)), x5], ⟨_, _, by omega, rfl⟩, fun i d Γ hd iv gh2 => ?_, fun Γ iv => ?_⟩))
      · obtain ⟨b, x5, hb, rfl⟩ := iv
        obtain ⟨c, _, rfl⟩ := List.mem_map.mp (List.mem_of_getElem? hd)
        refine r_one (s_set 4 ((ok.push gh).push gh2) (q_mod (q_toInt B.int (q_add (q_add (q_mul (q_v 4 ⟨_, rfl, ⟨_, rfl, q_int ⟨_, rfl, .inr (by decide), ⟨_, rfl, q_v 5 ⟨_, rfl, ⟨_, rfl, ⟨_, rfl, q_v 1 ⟨_, rfl, ⟨_, rfl, ⟨_, rfl, ⟨_, rfl, q_v 3 ⟨_, rfl, ⟨_, rfl, by omega, ⟨rfl, ⟨rfl, _, _, ?_, rfl⟩⟩⟩⟩⟩⟩⟩⟩⟩⟩⟩⟩⟩⟩⟩)))))))
        have q0 := Int.fmod_nonneg_of_pos (b * 69621 + c + (t + 1)) (show 0 < pr by omega)
        have q1 := Int.fmod_lt_of_pos (b * 69621 + c + (t + 1)) (show 0 < pr by omega)
        omega
      · obtain ⟨b, x5, hb, rfl⟩ := iv
        refine r_one (s_set 2 (ok.push gh) (q_add (q_mul (q_v 2 ⟨_, rfl, ⟨_, rfl, q_int ⟨_, rfl, .inr (by decide), ⟨_, rfl, q_mod (q_toInt B.int (q_pow (q_v 4 ⟨_, rfl, ⟨_, rfl, q_int ⟨_, rfl, ⟨by decide, by decide, by omega⟩, ⟨_, rfl, ⟨_, rfl, q_v 3 ⟨_, rfl, ⟨_, rfl, by omega, ⟨_, rfl, ⟨rfl, ⟨rfl, _, _, _, _, ?_, rfl⟩⟩⟩⟩⟩⟩⟩⟩⟩⟩)))⟩⟩⟩⟩))))
        have q0 := Int.fmod_nonneg_of_pos (b ^ (5 : Int).toNat) (show 0 < pr by omega)
        omega
    · obtain ⟨found, x3, x4, x5, hf, rfl⟩ := iv
      exact r_one (s_ret (q_v 2 ⟨_, rfl, ⟨rfl, hk found hf⟩⟩))
/-! ### _law_draw -/
abbrev s__law_draw : Stmt := topS 85
theorem sc__law_draw : FnScope ["_law_state", "_law_size_here", "_law_found"] ["_law_state", "_law_size_here"] (defScope s__law_draw) := ⟨rfl, rfl, rfl, by decide +kernel, rfl, by decide +kernel, by decide +kernel⟩
def sp__law_draw : Spc := fun ν as k => ∃ n : Int, as = [.s, .d (eI n)] ∧ (1 ≤ n ∧ n ≤ 1000) ∧ ν + 1 ≤ 1000000000 ∧ ∀ (ν' : Nat) (r : Int), ν' ≤ ν + 1 → 0 ≤ r ∧ r < n → k ν' (.d (eI r))
theorem ok__law_draw (A : At K mg "_law_draw" s__law_draw) (B : Bi mg) (T : Tx K mg C) (HF : HouseF K C) (G__law_blended : FnG P w K mg base C 1 "_law_blended" ["_law_state"] sp__law_blended) : FnG P w K mg base C 2 "_law_draw" ["_law_state", "_law_size_here"] sp__law_draw := by
  refine def_g (lev := 1) A sc__law_draw (fun _ _ _ _ _ _ us hl => match us, hl with | [_, _], _ => rfl) (fun ν as k h => ?_) fun f cdv A outer s H E st hr W hW ok ν as k h => ?_
  · obtain ⟨n, rfl, hn, hν, hk⟩ := h
    rfl
  · obtain ⟨n, rfl, hn, hν, hk⟩ := h
    subst hW
    refine r_mid (fun ν' Γ' => ν' ≤ ν + 1 ∧ Γ' = [some .s, some (.d (eI n)), none]) (s_if (qt_cv (c_eqI (q_left 0 ok rfl fun l hl => ⟨_, rfl, q_int ⟨_, rfl, ⟨_, rfl, ⟨fun hb => ?_, fun hb => ?_⟩⟩⟩⟩)))) ?_
    · exact r_one (s_putLeft 0 ok rfl (q_refill (j3 := 0) 0 ok rfl (fun g hg => ⟨_, rfl, hg, by omega, rfl⟩) (q_call G__law_blended (hr.mono (by decide)) (qa_cons (q_v 0 ⟨_, rfl, qa_nil ⟨rfl, ⟨rfl, by omega, fun r hr => ⟨_, rfl, hr, by omega, rfl⟩⟩⟩⟩)))))
    · exact r_nil ⟨by omega, rfl⟩
    rintro ν' Γ' ⟨hν', rfl⟩
    refine r_cons (s_set 2 ok (q_mod (q_toInt B.int (q_left 0 ok rfl fun l hl => ⟨_, rfl, ⟨_, rfl, q_v 1 ⟨_, rfl, ⟨_, rfl, by omega, ⟨rfl, ?_⟩⟩⟩⟩⟩))))
    have q0 := Int.fmod_nonneg_of_pos l (show 0 < n by omega)
    have q1 := Int.fmod_lt_of_pos l (show 0 < n by omega)
    refine r_cons (s_putLeft 0 ok rfl (q_fdiv (q_left 0 ok rfl fun l2 hl2 => ⟨_, rfl, q_v 1 ⟨_, rfl, ⟨_, rfl, ⟨by omega, by omega⟩, ⟨_, rfl, ?_, ?_⟩⟩⟩⟩)))
    · rw [fdiv_pos (by omega)]
      exact Int.ediv_nonneg hl2 (by omega)
    exact r_one (s_ret (q_v 2 ⟨_, rfl, ⟨rfl, hk ν' _ hν' ⟨q0, q1⟩⟩⟩))
/-! ### _law_pick -/
abbrev s__law_pick : Stmt := topS 86
theorem sc__law_pick : FnScope ["_law_state", "_law_several"] ["_law_state", "_law_several"] (defScope s__law_pick) := ⟨rfl, rfl, rfl, by decide +kernel, rfl, by decide +kernel, by decide +kernel⟩
def sp__law_pick : Spc := fun ν as k => ∃ xs : List D, as = [.s, .b xs] ∧ (0 < xs.length ∧ xs.length ≤ 1000) ∧ ν + 1 ≤ 1000000000 ∧ ∀ (ν' : Nat) (d : D), ν' ≤ ν + 1 → d ∈ xs → k ν' (.d d)
theorem ok__law_pick (A : At K mg "_law_pick" s__law_pick) (B : Bi mg) (T : Tx K mg C) (HF : HouseF K C) (G__law_draw : FnG P w K mg base C 2 "_law_draw" ["_law_state", "_law_size_here"] sp__law_draw) : FnG P w K mg base C 3 "_law_pick" ["_law_state", "_law_several"] sp__law_pick := by
  refine def_g (lev := 2) A sc__law_pick (fun _ _ _ _ _ _ us hl => match us, hl with | [_, _], _ => rfl) (fun ν as k h => ?_) fun f cdv A outer s H E st hr W hW ok ν as k h => ?_
  · obtain ⟨xs, rfl, hl, hν, hk⟩ := h
    rfl
  · obtain ⟨xs, rfl, hl, hν, hk⟩ := h
    subst hW
    refine r_one (s_ret (q_ixL (q_v 1 ⟨_, rfl, ⟨_, rfl, q_call G__law_draw (hr.mono (by decide)) (qa_cons (q_v 0 ⟨_, rfl, qa_cons (q_len B.len (q_v 1 ⟨_, rfl, ⟨_, rfl, qa_nil ⟨rfl, ⟨_, rfl, by omega, hν, fun ν1 r hν hr => ⟨_, _, rfl, ?_, ⟨rfl, hk ν1 (xs.getD r.toNat .none) hν ?_⟩⟩⟩⟩⟩⟩))⟩))⟩⟩)))
    · have h1 : r.toNat < xs.length := by omega
      have := atI_nat (getD_some h1 .none)
      rw [show ((r.toNat : Nat) : Int) = r by omega] at this
      exact this
    · exact getD_mem (by omega) _
/-! ### _law_mixed -/
abbrev s__law_mixed : Stmt := topS 87
theorem sc__law_mixed : FnScope ["_law_state", "_law_several", "_law_left", "_law_found"] ["_law_state", "_law_several"] (defScope s__law_mixed) := ⟨rfl, rfl, rfl, by decide +kernel, rfl, by decide +kernel, by decide +kernel⟩
def sp__law_mixed : Spc := fun ν as k => ∃ xs : List D, as = [.s, .b xs] ∧ xs.length ≤ 100 ∧ lowDs 9 xs = true ∧ ν + 100 ≤ 1000000000 ∧ ∀ (ν' : Nat) (ys : List D), ν' ≤ ν + 100 → ys.Perm xs → ∀ p, k ν' (.f p ys)
theorem ok__law_mixed (A : At K mg "_law_mixed" s__law_mixed) (B : Bi mg) (T : Tx K mg C) (HF : HouseF K C) (G__law_draw : FnG P w K mg base C 2 "_law_draw" ["_law_state", "_law_size_here"] sp__law_draw) : FnG P w K mg base C 3 "_law_mixed" ["_law_state", "_law_several"] sp__law_mixed := by
  refine def_g (lev := 2) A sc__law_mixed (fun _ _ _ _ _ _ us hl => match us, hl with | [_, _], _ => rfl) (fun ν as k h => ?_) fun f cdv A outer s H E st hr W hW ok ν as k h => ?_
  · obtain ⟨xs, rfl, hl, hlow, hν, hk⟩ := h
    rfl
  · obtain ⟨xs, rfl, hl, hlow, hν, hk⟩ := h
    subst hW
    refine r_cons (s_par 2 3 ok (qa_cons (q_toList B.list (q_v 1 ⟨_, rfl, ⟨_, rfl, fun p => qa_cons (q_lst (qa_nil ⟨_, rfl, by simp, fun q => qa_nil ⟨_, _, rfl, rfl, rfl, ?_⟩⟩))⟩⟩))))
    refine r_cons (s_whileW (fun m ν' Γ => ∃ ls fs : List D, m = ls.length ∧ (ls ++ fs).Perm xs ∧ ν' ≤ ν + fs.length ∧ Γ = [some .s, some (.b xs), some (.o p ls), some (.o q fs)]) ok ⟨_, xs, [], rfl, by simp, by simp, rfl⟩ fun m ν' Γ iv => ?_)
    obtain ⟨ls, fs, rfl, hp, hν', rfl⟩ := iv
    have hpl := hp.length_eq
    rw [List.length_append] at hpl
    have hlow2 : lowDs 9 ls = true := by
      have all : ∀ {zs : List D}, lowDs 9 zs = true ↔ ∀ z, z ∈ zs → lowD 9 z = true := by
        intro zs
        induction zs with
        | nil => simp [lowDs]
        | cons z zs ih =>
          rw [lowDs_cons, Bool.and_eq_true_iff, ih]
          simp
      rw [all] at hlow ⊢
      exact fun z hz => hlow z (hp.mem_iff.mp (List.mem_append.mpr (.inl hz)))
    refine qt_cv (c_neNl (q_v 2 ⟨_, rfl, ⟨_, rfl, hlow2, ⟨_, rfl, ⟨fun hb => ?_, fun hb => ?_⟩⟩⟩⟩) ok)
    · have hne : 0 < ls.length := by
        cases ls with
        | nil => cases hb
        | cons => simp
      refine r_one (s_appendPop 3 2 rfl rfl (by decide) (q_call G__law_draw (hr.mono (by decide)) (qa_cons (q_v 0 ⟨_, rfl, qa_cons (q_len B.len (q_v 2 ⟨_, rfl, ⟨_, rfl, qa_nil ⟨rfl, ⟨_, rfl, by omega, by omega, fun ν1 r hν1 hr => ⟨r, r.toNat, ls.getD r.toNat .none, rfl, by omega, rfl, getD_some (by omega) _, by omega, ⟨_, ?_, ls.eraseIdx r.toNat, fs ++ [ls.getD r.toNat .none], rfl, ?_, ?_, rfl⟩⟩⟩⟩⟩⟩))⟩))))
      · rw [List.length_eraseIdx]
        split <;> omega
      · refine List.Perm.trans ?_ hp
        have h1 : r.toNat < ls.length := by omega
        have e1 : ls.Perm (ls.getD r.toNat .none :: ls.eraseIdx r.toNat) := erase_perm h1 _
        have e2 : (ls.eraseIdx r.toNat ++ (fs ++ [ls.getD r.toNat .none])).Perm (ls.getD r.toNat .none :: ls.eraseIdx r.toNat ++ fs) := by
          rw [← List.append_assoc]
          exact List.perm_append_singleton _ _
        exact e2.trans (e1.symm.append_right fs)
      · rw [List.length_append]
        simp only [List.length_cons, List.length_nil]
        omega
    · have h0 : ls = [] := by
        cases ls with
        | nil => rfl
        | cons => cases hb
      subst h0
      exact r_one (s_ret (q_v 3 ⟨_, rfl, ⟨rfl, hk ν' fs (by omega) (by simpa using hp) q⟩⟩))
end
end PF


set_option maxHeartbeats 4000000
/-! D14 -/
namespace PF
open PySem PySem.Spec PyProof.Rows L2 QL PR
def sidesL (n : Nat) : List Pass := (List.range n).flatMap fun (i : Nat) => [((i : Int), (0 : Int)), ((i : Int), (1 : Int))]
def stepsL (ds : List Door) (room : Int) : List Pass := (sidesL ds.length).filter fun e => decide (src ds e = room)
theorem sides_succ (n : Nat) : sidesL (n + 1) = sidesL n ++ [((n : Int), (0 : Int)), ((n : Int), (1 : Int))] := by
  unfold sidesL
  rw [List.range_succ, List.flatMap_append]
  simp
theorem sides_len (n : Nat) : (sidesL n).length = 2 * n := by
  induction n with
  | zero => rfl
  | succ n ih =>
    rw [sides_succ, List.length_append, ih]
    simp
    omega
theorem mem_sides {n : Nat} {e : Pass} : e ∈ sidesL n ↔ (0 ≤ e.1 ∧ e.1 < (n : Int)) ∧ Sd e := by
  unfold sidesL Sd
  rw [List.mem_flatMap]
  constructor
  · rintro ⟨i, hi, h⟩
    have := List.mem_range.mp hi
    rcases List.mem_cons.mp h with rfl | h
    · exact ⟨by simp; omega, .inl rfl⟩
    · rw [List.mem_singleton.mp h]
      exact ⟨by simp; omega, .inr rfl⟩
  · rintro ⟨⟨h1, h2⟩, h⟩
    refine ⟨e.1.toNat, List.mem_range.mpr (by omega), ?_⟩
    have e1 : ((e.1.toNat : Nat) : Int) = e.1 := by omega
    rw [e1]
    rcases h with h | h
    · rw [← h]
      exact List.mem_cons_self
    · rw [← h]
      exact List.mem_cons_of_mem _ List.mem_cons_self
theorem mem_steps {ds : List Door} {room : Int} {e : Pass} : e ∈ stepsL ds room ↔ Pas ds e ∧ src ds e = room := by
  unfold stepsL Pas
  rw [List.mem_filter, mem_sides, decide_eq_true_iff]
theorem steps_len (ds : List Door) (room : Int) : (stepsL ds room).length ≤ 2 * ds.length := by
  refine Nat.le_trans (List.length_filter_le _ _) ?_
  rw [sides_len]
  exact Nat.le_refl _
def tP (g : Pass → Bool) : D → Bool
  | .tuple [.int a, .int b] => g (a, b)
  | _ => false
theorem filtP (g : Pass → Bool) (es : List Pass) : ((es.map eP).filter (tP g)).map id = (es.filter g).map eP := by
  rw [List.map_id, List.filter_map]
  congr 1
section
variable {P : Program} {w : World} {K : PySem.W.Frag} {mg : Str → Option Value} {base : Heap} {C : Addr}
/-! ### _law_is_whole -/
abbrev s__law_is_whole : Stmt := topS 88
theorem sc__law_is_whole : FnScope ["_law_item"] ["_law_item"] (defScope s__law_is_whole) := ⟨rfl, rfl, rfl, by decide +kernel, rfl, by decide +kernel, by decide +kernel⟩
def sp__law_is_whole : Spc := fun ν as k => ∃ d, as = [.d d] ∧ lowD 9 d = true ∧ k ν (.d (.bool (isI d)))
theorem ok__law_is_whole (A : At K mg "_law_is_whole" s__law_is_whole) (B : Bi mg) (T : Tx K mg C) (HF : HouseF K C) : FnG P w K mg base C 1 "_law_is_whole" ["_law_item"] sp__law_is_whole := by
  refine def_g (lev := 0) A sc__law_is_whole (fun _ _ _ _ _ _ us hl => match us, hl with | [_], _ => rfl) (fun ν as k h => ?_) fun f cdv A outer s H E st hr W hW ok ν as k h => ?_
  · obtain ⟨d, rfl, hd, hk⟩ := h
    rfl
  · obtain ⟨d, rfl, hd, hk⟩ := h
    subst hW
    have hl := low_T hd
    refine r_one (s_ret (q_and (q_isInt B.isinstance B.int (q_v 0 ⟨_, rfl, ⟨_, rfl, hl, ⟨_, rfl, fun hb => q_one (q_not (q_isBool B.isinstance B.bool (q_v 0 ⟨_, rfl, ⟨_, rfl, hl, ⟨_, rfl, ⟨rfl, ?_⟩⟩⟩⟩))), fun hb => ⟨rfl, ?_⟩⟩⟩⟩))))
    all_goals (rw [hb] at hk; exact hk)
/-! ### _law_gate -/
abbrev s__law_gate : Stmt := topS 89
theorem sc__law_gate : FnScope ["_law_doors_here", "_law_step", "_law_near", "_law_first", "_law_far", "_law_second"] ["_law_doors_here", "_law_step"] (defScope s__law_gate) := ⟨rfl, rfl, rfl, by decide +kernel, rfl, by decide +kernel, by decide +kernel⟩
def sp__law_gate : Spc := fun ν as k => ∃ ds e, as = [.d (eDs ds), .d (eP e)] ∧ Pas ds e ∧ k ν (.d (eDo (gate ds e)))
theorem ok__law_gate (A : At K mg "_law_gate" s__law_gate) (B : Bi mg) (T : Tx K mg C) (HF : HouseF K C) : FnG P w K mg base C 1 "_law_gate" ["_law_doors_here", "_law_step"] sp__law_gate := by
  refine def_g (lev := 0) A sc__law_gate (fun _ _ _ _ _ _ us hl => match us, hl with | [_, _], _ => rfl) (fun ν as k h => ?_) fun f cdv A outer s H E st hr W hW ok ν as k h => ?_
  · obtain ⟨ds, e, rfl, he, hk⟩ := h
    rfl
  · obtain ⟨ds, e, rfl, he, hk⟩ := h
    subst hW
    refine r_cons (s_tup [2, 3, 4, 5] ok (pgs_cons (pg_name (i := 2) ok.nd rfl (.inl rfl)) (pgs_cons (pg_name (i := 3) ok.nd rfl (.inl rfl)) (pgs_cons (pg_name (i := 4) ok.nd rfl (.inl rfl)) (pgs_cons (pg_name (i := 5) ok.nd rfl (.inl rfl)) (pgs_nil))))) (q_ix (q_v 0 ⟨_, rfl, ⟨_, rfl, q_ix (q_v 1 ⟨_, rfl, ⟨_, rfl, q_int ⟨_, _, rfl, rfl, ⟨_, _, rfl, door_at he, ⟨_, rfl, rfl, ?_⟩⟩⟩⟩⟩)⟩⟩)))
    refine r_one (s_ret (q_ife (qt_cv (c_eqI (q_ix (q_v 1 ⟨_, rfl, ⟨_, rfl, q_int ⟨_, _, rfl, rfl, ⟨_, rfl, q_int ⟨_, rfl, ⟨_, rfl, ⟨fun hb => q_tup (qa_cons (q_v 2 ⟨_, rfl, qa_cons (q_v 3 ⟨_, rfl, qa_cons (q_v 4 ⟨_, rfl, qa_cons (q_v 5 ⟨_, rfl, qa_nil ⟨_, rfl, by simp, ⟨rfl, ?_⟩⟩⟩)⟩)⟩)⟩)), fun hb => q_tup (qa_cons (q_v 4 ⟨_, rfl, qa_cons (q_v 5 ⟨_, rfl, qa_cons (q_v 2 ⟨_, rfl, qa_cons (q_v 3 ⟨_, rfl, qa_nil ⟨_, rfl, by simp, ⟨rfl, ?_⟩⟩⟩)⟩)⟩)⟩))⟩⟩⟩⟩⟩⟩⟩))))))
    · have h0 : e.2 = 0 := of_decide_eq_true hb
      have e1 : gate ds e = ds.getD e.1.toNat (0, 1, 0, 1) := by
        unfold gate
        rw [if_pos h0]
      rw [e1] at hk
      exact hk
    · have h0 : ¬ e.2 = 0 := of_decide_eq_false hb
      have e1 : gate ds e = ((ds.getD e.1.toNat (0, 1, 0, 1)).2.2.1, (ds.getD e.1.toNat (0, 1, 0, 1)).2.2.2, (ds.getD e.1.toNat (0, 1, 0, 1)).1, (ds.getD e.1.toNat (0, 1, 0, 1)).2.1) := by
        unfold gate
        rw [if_neg h0]
      rw [e1] at hk
      exact hk
/-! ### _law_end -/
abbrev s__law_end : Stmt := topS 94
theorem sc__law_end : FnScope ["_law_doors_here", "_law_walk_here"] ["_law_doors_here", "_law_walk_here"] (defScope s__law_end) := ⟨rfl, rfl, rfl, by decide +kernel, rfl, by decide +kernel, by decide +kernel⟩
def sp__law_end : Spc := fun ν as k => ∃ ds wk r, as = [.d (eDs ds), .d (eW wk)] ∧ WOk ds wk r ∧ k ν (.d (eI r))
theorem ok__law_end (A : At K mg "_law_end" s__law_end) (B : Bi mg) (T : Tx K mg C) (HF : HouseF K C) (G__law_gate : FnG P w K mg base C 1 "_law_gate" ["_law_doors_here", "_law_step"] sp__law_gate) : FnG P w K mg base C 2 "_law_end" ["_law_doors_here", "_law_walk_here"] sp__law_end := by
  refine def_g (lev := 1) A sc__law_end (fun _ _ _ _ _ _ us hl => match us, hl with | [_, _], _ => rfl) (fun ν as k h => ?_) fun f cdv A outer s H E st hr W hW ok ν as k h => ?_
  · obtain ⟨ds, wk, r, rfl, hw, hk⟩ := h
    rfl
  · obtain ⟨ds, wk, r, rfl, hw, hk⟩ := h
    subst hW
    refine r_one (s_ret (q_ife (qt_cv (c_neP (q_ix (q_v 1 ⟨_, rfl, ⟨_, rfl, q_int ⟨_, _, rfl, rfl, ⟨_, rfl, Low.h, q_tup (qa_nil ⟨_, rfl, by simp, ⟨_, rfl, Low.h, ⟨_, rfl, ⟨fun hb => q_ix (q_call G__law_gate (hr.mono (by decide)) (qa_cons (q_v 0 ⟨_, rfl, qa_cons (q_ix (q_ix (q_v 1 ⟨_, rfl, ⟨_, rfl, q_int ⟨_, _, rfl, rfl, ⟨_, rfl, q_neg (q_int ⟨_, rfl, ⟨_, _, rfl, atI_lastD (d := (0, 0)) ?_, qa_nil ⟨rfl, ⟨_, _, rfl, ?_, ⟨_, rfl, q_int ⟨_, _, rfl, rfl, ⟨rfl, ?_⟩⟩⟩⟩⟩⟩⟩)⟩⟩⟩⟩)))⟩))), fun hb => q_ix (q_v 1 ⟨_, rfl, ⟨_, rfl, q_int ⟨_, _, rfl, rfl, ⟨rfl, ?_⟩⟩⟩⟩)⟩⟩⟩⟩)⟩⟩⟩⟩)) ok))))
    · intro h
      rw [h] at hb
      exact absurd hb (by decide)
    · refine (path_last hw.path ?_).1
      intro h
      rw [h] at hb
      exact absurd hb (by decide)
    · have h0 : wk.passes ≠ [] := fun h => by
        rw [h] at hb
        exact absurd hb (by decide)
      have e := (path_last hw.path h0).2
      rw [e] at hk
      exact hk
    · have h0 : wk.passes = [] := by
        cases hp : wk.passes with
        | nil => rfl
        | cons e es =>
          rw [hp] at hb
          exact absurd hb (by simp [PyData.eqv, PyData.eqvAll])
      have := hw.path
      rw [h0] at this
      have e : wk.room = r := this
      rw [e]
      exact hk
/-! ### _law_joined -/
abbrev s__law_joined : Stmt := topS 96
theorem sc__law_joined : FnScope ["_law_one", "_law_other", "_law_middle"] ["_law_one", "_law_other"] (defScope s__law_joined) := ⟨rfl, rfl, rfl, by decide +kernel, rfl, by decide +kernel, by decide +kernel⟩
def sp__law_joined : Spc := fun ν as k => ∃ a b : Walk, as = [.d (eW a), .d (eW b)] ∧ (a.pulls.length = a.passes.length + 1 ∧ b.pulls.length = b.passes.length + 1) ∧ (a.passes.length ≤ 200 ∧ b.passes.length ≤ 200) ∧ k ν (.d (eW (a.join b)))
theorem ok__law_joined (A : At K mg "_law_joined" s__law_joined) (B : Bi mg) (T : Tx K mg C) (HF : HouseF K C) : FnG P w K mg base C 1 "_law_joined" ["_law_one", "_law_other"] sp__law_joined := by
  refine def_g (lev := 0) A sc__law_joined (fun _ _ _ _ _ _ us hl => match us, hl with | [_, _], _ => rfl) (fun ν as k h => ?_) fun f cdv A outer s H E st hr W hW ok ν as k h => ?_
  · obtain ⟨a, b, rfl, hab, hl, hk⟩ := h
    rfl
  · obtain ⟨a, b, rfl, hab, hl, hk⟩ := h
    subst hW
    have ha : a.pulls ≠ [] := ne_nil_of hab.1
    have hb : b.pulls ≠ [] := ne_nil_of hab.2
    refine r_cons (s_set 2 ok (q_add (q_ix (q_ix (q_v 0 ⟨_, rfl, ⟨_, rfl, q_int ⟨_, _, rfl, rfl, ⟨_, rfl, q_neg (q_int ⟨_, rfl, ⟨_, _, rfl, atI_lastD ha 0, ⟨_, rfl, q_ix (q_ix (q_v 1 ⟨_, rfl, ⟨_, rfl, q_int ⟨_, _, rfl, rfl, ⟨_, rfl, q_int ⟨_, _, rfl, atI_headD hb 0, ⟨_, rfl, ⟨rfl, ?_⟩⟩⟩⟩⟩⟩⟩))⟩⟩⟩)⟩⟩⟩⟩)))))
    refine r_one (s_ret (q_tup (qa_cons (q_ix (q_v 0 ⟨_, rfl, ⟨_, rfl, q_int ⟨_, _, rfl, rfl, qa_cons (q_cat (q_cat (q_sl01 (q_ix (q_v 0 ⟨_, rfl, ⟨_, rfl, q_int ⟨_, _, rfl, rfl, ⟨_, rfl, q_neg (q_int ⟨_, rfl, ⟨_, rfl, ⟨_, rfl, q_tup (qa_cons (q_v 2 ⟨_, rfl, qa_nil ⟨_, rfl, by simp, ⟨_, rfl, ?_, ⟨_, rfl, q_sl10 (q_ix (q_v 1 ⟨_, rfl, ⟨_, rfl, q_int ⟨_, _, rfl, rfl, ⟨_, rfl, q_int ⟨_, rfl, ⟨_, rfl, ?_, qa_cons (q_cat (q_ix (q_v 0 ⟨_, rfl, ⟨_, rfl, q_int ⟨_, _, rfl, rfl, ⟨_, rfl, q_ix (q_v 1 ⟨_, rfl, ⟨_, rfl, q_int ⟨_, _, rfl, rfl, ⟨_, rfl, ?_, qa_nil ⟨_, rfl, by simp, ⟨rfl, ?_⟩⟩⟩⟩⟩⟩)⟩⟩⟩⟩)))⟩⟩⟩⟩⟩⟩))⟩⟩⟩⟩))⟩⟩⟩)⟩⟩⟩⟩)))))⟩⟩⟩)))))
    · rw [cut_last, List.length_map, List.length_dropLast]
      simp only [List.map_cons, List.map_nil, List.length_cons, List.length_nil]
      omega
    · rw [cut_last, cut_tail]
      simp only [List.length_append, List.length_map, List.length_dropLast, List.length_tail, List.length_cons, List.length_nil]
      omega
    · rw [List.length_map, List.length_map]
      omega
    · have e : eW (a.join b) = .tuple [.int a.room, .tuple (QL.cutD (a.pulls.map PyData.int) none (some (-1)) ++ [.int (a.pulls.getLastD 0 + b.pulls.headD 0)] ++ QL.cutD (b.pulls.map PyData.int) (some 1) none), .tuple (a.passes.map eP ++ b.passes.map eP)] := by
        rw [cut_last, cut_tail]
        unfold eW Walk.join joinP
        simp
      rw [e] at hk
      exact hk
/-! ### _law_sides -/
abbrev s__law_sides : Stmt := topS 91
theorem sc__law_sides : FnScope ["_law_many", "_law_found", "_law_spot"] ["_law_many"] (defScope s__law_sides) := ⟨rfl, rfl, rfl, by decide +kernel, rfl, by decide +kernel, by decide +kernel⟩
def sp__law_sides : Spc := fun ν as k => ∃ n : Nat, as = [.d (eI n)] ∧ n ≤ 20 ∧ ∀ p, k ν (.f p ((sidesL n).map eP))
theorem ok__law_sides (A : At K mg "_law_sides" s__law_sides) (B : Bi mg) (T : Tx K mg C) (HF : HouseF K C) : FnG P w K mg base C 1 "_law_sides" ["_law_many"] sp__law_sides := by
  refine def_g (lev := 0) A sc__law_sides (fun _ _ _ _ _ _ us hl => match us, hl with | [_], _ => rfl) (fun ν as k h => ?_) fun f cdv A outer s H E st hr W hW ok ν as k h => ?_
  · obtain ⟨n, rfl, hn, hk⟩ := h
    rfl
  · obtain ⟨n, rfl, hn, hk⟩ := h
    subst hW
    refine r_cons (s_set 1 ok (q_lst (qa_nil ⟨_, rfl, by simp, fun p => ⟨rfl, ?_⟩⟩)))
    refine r_cons (s_for 2 ok (qi_range1 B.range (q_v 0 ⟨_, rfl, ⟨_, rfl, by omega, ⟨fun _ => trivial, fun i Γ => ∃ p x2, i ≤ n ∧ Γ = [some (.d (eI n)), some (.o p ((sidesL i).map eP)), x2], ⟨p, _, by omega, rfl⟩, fun i d Γ hd iv gh => ?_, fun Γ iv => ?_⟩⟩⟩)))
    · obtain ⟨p, x2, hle, rfl⟩ := iv
      obtain ⟨i', hi, rfl⟩ := getMap hd
      have hii : i' = i ∧ i < n := by
        obtain ⟨h1, h2⟩ := List.getElem?_eq_some_iff.mp hi
        rw [List.length_range] at h1
        rw [List.getElem_range] at h2
        exact ⟨h2.symm, by simpa using h1⟩
      obtain ⟨rfl, hi2⟩ := hii
      refine r_one (s_set 1 (ok.push gh) (q_catL (q_v 1 ⟨_, rfl, ⟨_, ⟨rfl, fun _ q => nomatch q⟩, q_lst (qa_cons (q_tup (qa_cons (q_v 2 ⟨_, rfl, qa_cons (q_int (qa_nil ⟨_, rfl, by simp, qa_cons (q_tup (qa_cons (q_v 2 ⟨_, rfl, qa_cons (q_int (qa_nil ⟨_, rfl, by simp, qa_nil ⟨_, rfl, by simp, fun p => ⟨_, ⟨rfl, fun _ q => nomatch q⟩, ?_, fun p => ⟨rfl, ⟨rfl, p, some (.d (.int (i' : Int))), hi2, ?_⟩⟩⟩⟩⟩))⟩)))⟩))⟩))))⟩⟩)))
      · rw [List.length_map, sides_len]
        simp
        omega
      · rw [sides_succ, List.map_append]
        rfl
    · obtain ⟨p, x2, hle, rfl⟩ := iv
      have e : ((List.range (n : Int).toNat).map fun (i : Nat) => PyData.int (i : Int)).length = n := by
        rw [List.length_map, List.length_range, Int.toNat_natCast]
      refine r_one (s_ret (q_v 1 ⟨_, rfl, ⟨rfl, ?_⟩⟩))
      rw [e]
      exact hk p
/-! ### _law_steps -/
abbrev s__law_steps : Stmt := topS 90
theorem sc__law_steps : FnScope ["_law_doors_here", "_law_room_here", "_law_some", "_law_spot", "_law_turn", "_law_step"] ["_law_doors_here", "_law_room_here"] (defScope s__law_steps) := ⟨rfl, rfl, rfl, by decide +kernel, rfl, by decide +kernel, by decide +kernel⟩
def sp__law_steps : Spc := fun ν as k => ∃ ds room, as = [.d (eDs ds), .d (eI room)] ∧ ds.length ≤ 20 ∧ ∀ p, k ν (.f p ((stepsL ds room).map eP))
theorem ok__law_steps (A : At K mg "_law_steps" s__law_steps) (B : Bi mg) (T : Tx K mg C) (HF : HouseF K C) (G__law_gate : FnG P w K mg base C 1 "_law_gate" ["_law_doors_here", "_law_step"] sp__law_gate) (G__law_sides : FnG P w K mg base C 1 "_law_sides" ["_law_many"] sp__law_sides) : FnG P w K mg base C 2 "_law_steps" ["_law_doors_here", "_law_room_here"] sp__law_steps := by
  refine def_g (lev := 1) A sc__law_steps (fun _ _ _ _ _ _ us hl => match us, hl with | [_, _], _ => rfl) (fun ν as k h => ?_) fun f cdv A outer s H E st hr W hW ok ν as k h => ?_
  · obtain ⟨ds, room, rfl, hn, hk⟩ := h
    rfl
  · obtain ⟨ds, room, rfl, hn, hk⟩ := h
    subst hW
    refine r_cons (s_setLc 2 ok (qcN [3, 4] (own := [("_law_spot", 3), ("_law_turn", 4)]) (fun d y => ∃ x : Pass, d = eP x ∧ y = eP x) ok rfl (qi_lst (q_call G__law_sides (hr.mono (by decide)) (qa_cons (q_len B.len (q_v 0 ⟨_, rfl, ⟨_, rfl, qa_nil ⟨rfl, ⟨_, rfl, ?_, fun p => ⟨_, rfl, rfl, ⟨trivial, ?_, fun i d hd => ?_, fun acc hacc p => ⟨rfl, ?_⟩⟩⟩⟩⟩⟩⟩))))) (hg := (fun _ _ _ _ _ => pgs_cons (pg_name (i := 3) ok.nd rfl (.inl rfl)) (pgs_cons (pg_name (i := 4) ok.nd rfl (.inl rfl)) (pgs_nil))))))
    · rw [List.length_map]
      exact hn
    · rw [List.length_map, sides_len, List.length_map]
      omega
    · obtain ⟨x, hx, rfl⟩ := getMap hd
      exact ⟨_, rfl, rfl, fun gh s H C cl fp => q_tup (qa_cons (q_v 3 ⟨_, rfl, qa_cons (q_v 4 ⟨_, rfl, qa_nil ⟨_, rfl, by simp, ⟨rfl, _, rfl, _, rfl, rfl⟩⟩⟩)⟩))⟩
    have hacc := pm (f := eP) (g := eP) (fun _ _ q => q) hacc
    subst hacc
    rw [List.length_map]
    refine r_one (s_ret (q_lc ok (qc1t 5 (tP fun e => decide (src ds e = room)) id ok (qi_own 2 rfl ⟨rfl, ?_, fun i d hd => ?_, fun p => ⟨rfl, ?_⟩⟩) (hg := (fun _ _ _ _ _ => pg_name ok.nd rfl (.inl rfl))))))
    · rw [List.length_map, sides_len]
      omega
    · obtain ⟨x, hx, rfl⟩ := getMap hd
      have hp := mem_sides.mp (List.mem_of_getElem? hx)
      exact ⟨fun gh s H C cl fp => qt_cv (c_eqI (q_ix (q_call G__law_gate (hr.mono (by decide)) (qa_cons (q_v 0 ⟨_, rfl, qa_cons (q_v 5 ⟨_, rfl, qa_nil ⟨rfl, ⟨_, _, rfl, hp, ⟨_, rfl, q_int ⟨_, _, rfl, rfl, ⟨_, rfl, q_v 1 ⟨_, rfl, ⟨_, rfl, ⟨_, rfl, ⟨rfl, rfl⟩⟩⟩⟩⟩⟩⟩⟩⟩⟩)⟩))))), fun ht gh s H C cl fp => q_v 5 ⟨_, rfl, ⟨rfl, rfl⟩⟩⟩
    · rw [filtP]
      exact hk p
/-! ### _law_pulls -/
abbrev s__law_pulls : Stmt := topS 92
theorem sc__law_pulls : FnScope ["_law_state", "_law_doors_here", "_law_step"] ["_law_state", "_law_doors_here", "_law_step"] (defScope s__law_pulls) := ⟨rfl, rfl, rfl, by decide +kernel, rfl, by decide +kernel, by decide +kernel⟩
def sp__law_pulls : Spc := fun ν as k => ∃ rooms ds e, as = [.s, .d (eDs ds), .d (eP e)] ∧ Hs rooms ds ∧ Pas ds e ∧ ν + 2 ≤ 1000000000 ∧ ∀ (ν' : Nat) (i : Int), ν' ≤ ν + 2 → k ν' (.d (eI i))
theorem ok__law_pulls (A : At K mg "_law_pulls" s__law_pulls) (B : Bi mg) (T : Tx K mg C) (HF : HouseF K C) (G__law_draw : FnG P w K mg base C 2 "_law_draw" ["_law_state", "_law_size_here"] sp__law_draw) (G__law_gate : FnG P w K mg base C 1 "_law_gate" ["_law_doors_here", "_law_step"] sp__law_gate) : FnG P w K mg base C 3 "_law_pulls" ["_law_state", "_law_doors_here", "_law_step"] sp__law_pulls := by
  refine def_g (lev := 2) A sc__law_pulls (fun _ _ _ _ _ _ us hl => match us, hl with | [_, _, _], _ => rfl) (fun ν as k h => ?_) fun f cdv A outer s H E st hr W hW ok ν as k h => ?_
  · obtain ⟨rooms, ds, e, rfl, hs, he, hν, hk⟩ := h
    rfl
  · obtain ⟨rooms, ds, e, rfl, hs, he, hν, hk⟩ := h
    subst hW
    have hg := gate_dok hs he
    refine r_cons (s_if (qt_cv (c_eqI (q_call G__law_draw (hr.mono (by decide)) (qa_cons (q_v 0 ⟨_, rfl, qa_cons (q_int (qa_nil ⟨rfl, ⟨_, rfl, by omega, by omega, fun ν1 r hν1 hr1 => ⟨_, rfl, q_int ⟨_, rfl, ⟨_, rfl, ⟨fun hb => ?_, fun hb => ?_⟩⟩⟩⟩⟩⟩))⟩))))))
    · exact r_one (s_ret (q_sub (q_call G__law_draw (hr.mono (by decide)) (qa_cons (q_v 0 ⟨_, rfl, qa_cons (q_int (qa_nil ⟨rfl, ⟨_, rfl, by omega, by omega, fun ν2 r2 hν2 hr2 => ⟨_, rfl, q_int ⟨_, rfl, ⟨rfl, hk ν2 _ (by omega)⟩⟩⟩⟩⟩))⟩)))))
    · refine r_nil ?_
      exact r_one (s_ret (q_mul (q_ix (q_call G__law_gate (hr.mono (by decide)) (qa_cons (q_v 1 ⟨_, rfl, qa_cons (q_v 2 ⟨_, rfl, qa_nil ⟨rfl, ⟨_, _, rfl, he, ⟨_, rfl, q_int ⟨_, _, rfl, rfl, ⟨_, rfl, q_sub (q_call G__law_draw (hr.mono (by decide)) (qa_cons (q_v 0 ⟨_, rfl, qa_cons (q_int (qa_nil ⟨rfl, ⟨_, rfl, by omega, by omega, fun ν2 r2 hν2 hr2 => ⟨_, rfl, q_int ⟨_, rfl, ⟨_, rfl, smul hg.one.2, ⟨rfl, hk ν2 _ (by omega)⟩⟩⟩⟩⟩⟩))⟩)))⟩⟩⟩⟩⟩⟩)⟩))))))
/-! ### _law_back -/
abbrev s__law_back : Stmt := topS 97
theorem sc__law_back : FnScope ["_law_doors_here", "_law_walk_here", "_law_steps_here", "_law_step", "_law_item"] ["_law_doors_here", "_law_walk_here"] (defScope s__law_back) := ⟨rfl, rfl, rfl, by decide +kernel, rfl, by decide +kernel, by decide +kernel⟩
def sp__law_back : Spc := fun ν as k => ∃ ds wk r, as = [.d (eDs ds), .d (eW wk)] ∧ WOk ds wk r ∧ wk.passes.length ≤ 200 ∧ k ν (.d (eW (wk.bk r)))
theorem ok__law_back (A : At K mg "_law_back" s__law_back) (B : Bi mg) (T : Tx K mg C) (HF : HouseF K C) (G__law_end : FnG P w K mg base C 2 "_law_end" ["_law_doors_here", "_law_walk_here"] sp__law_end) : FnG P w K mg base C 3 "_law_back" ["_law_doors_here", "_law_walk_here"] sp__law_back := by
  refine def_g (lev := 2) A sc__law_back (fun _ _ _ _ _ _ us hl => match us, hl with | [_, _], _ => rfl) (fun ν as k h => ?_) fun f cdv A outer s H E st hr W hW ok ν as k h => ?_
  · obtain ⟨ds, wk, r, rfl, hw, hl, hk⟩ := h
    rfl
  · obtain ⟨ds, wk, r, rfl, hw, hl, hk⟩ := h
    subst hW
    have hlw := hw.len
    refine r_cons (s_set 2 ok (q_toTup B.tuple (q_lc ok (qc1 3 (fun d y => ∃ x : Pass, d = eP x ∧ y = eP (inv x)) ok (qi_tup (q_revT (q_ix (q_v 1 ⟨_, rfl, ⟨_, rfl, q_int ⟨_, _, rfl, rfl, ⟨_, rfl, ⟨_, rfl, ⟨trivial, ?_, fun i d hd gh s H C cl fp => ?_, fun acc hacc p => ⟨_, rfl, ⟨rfl, ?_⟩⟩⟩⟩⟩⟩⟩⟩)))) (hg := (fun _ _ _ _ _ => pg_name ok.nd rfl (.inl rfl)))))))
    · rw [List.length_reverse, List.length_map]
      omega
    · rw [← List.map_reverse] at hd
      obtain ⟨x, hx, rfl⟩ := getMap hd
      exact q_tup (qa_cons (q_ix (q_v 3 ⟨_, rfl, ⟨_, rfl, q_int ⟨_, _, rfl, rfl, qa_cons (q_sub (q_int ⟨_, rfl, q_ix (q_v 3 ⟨_, rfl, ⟨_, rfl, q_int ⟨_, _, rfl, rfl, ⟨_, rfl, qa_nil ⟨_, rfl, by simp, ⟨rfl, _, rfl, _, rfl, rfl⟩⟩⟩⟩⟩⟩)⟩))⟩⟩⟩)))
    rw [← List.map_reverse] at hacc
    have hacc := pm (f := eP) (g := fun x => eP (inv x)) (fun _ _ q => by rw [eP_inj q]) hacc
    subst hacc
    refine r_one (s_ret (q_tup (qa_cons (q_call G__law_end (hr.mono (by decide)) (qa_cons (q_v 0 ⟨_, rfl, qa_cons (q_v 1 ⟨_, rfl, qa_nil ⟨rfl, ⟨_, _, _, rfl, hw, qa_cons (q_toTup B.tuple (q_lc ok (qc1 4 (fun d y => ∃ x : Int, d = .int x ∧ y = .int (0 - x)) ok (qi_tup (q_revT (q_ix (q_v 1 ⟨_, rfl, ⟨_, rfl, q_int ⟨_, _, rfl, rfl, ⟨_, rfl, ⟨_, rfl, ⟨trivial, ?_, fun i d hd gh s H C cl fp => ?_, fun acc hacc p => ⟨_, rfl, qa_cons (q_v 2 ⟨_, rfl, qa_nil ⟨_, rfl, by simp, ⟨rfl, ?_⟩⟩⟩)⟩⟩⟩⟩⟩⟩⟩)))) (hg := (fun _ _ _ _ _ => pg_name ok.nd rfl (.inl rfl))))))⟩⟩⟩)⟩))))))
    · rw [List.length_reverse, List.length_map]
      omega
    · rw [← List.map_reverse] at hd
      obtain ⟨x, hx, rfl⟩ := getMap hd
      exact q_sub (q_int ⟨_, rfl, q_v 4 ⟨_, rfl, ⟨_, rfl, ⟨rfl, _, rfl, _, rfl, rfl⟩⟩⟩⟩)
    rw [← List.map_reverse] at hacc
    have hacc := pm (f := PyData.int) (g := fun x => .int (0 - x)) (fun _ _ q => by rw [eI_inj q]) hacc
    subst hacc
    have e : eW (wk.bk r) = .tuple [.int r, .tuple (wk.pulls.reverse.map fun x => .int (0 - x)), .tuple (wk.passes.reverse.map fun x => eP (inv x))] := by
      show PyData.tuple [.int r, .tuple ((wk.pulls.reverse.map fun i => 0 - i).map PyData.int), .tuple ((wk.passes.reverse.map inv).map eP)] = _
      rw [List.map_map, List.map_map]
      rfl
    rw [e] at hk
    exact hk
/-! ### _law_bare -/
abbrev s__law_bare : Stmt := topS 98
theorem sc__law_bare : FnScope ["_law_doors_here", "_law_room_here", "_law_steps_here"] ["_law_doors_here", "_law_room_here", "_law_steps_here"] (defScope s__law_bare) := ⟨rfl, rfl, rfl, by decide +kernel, rfl, by decide +kernel, by decide +kernel⟩
def sp__law_bare : Spc := fun ν as k => ∃ dd room es, as = [.d dd, .d (eI room), .d (ePs es)] ∧ es.length ≤ 500 ∧ k ν (.d (eW ⟨room, List.replicate (es.length + 1) 0, es⟩))
theorem ok__law_bare (A : At K mg "_law_bare" s__law_bare) (B : Bi mg) (T : Tx K mg C) (HF : HouseF K C) : FnG P w K mg base C 1 "_law_bare" ["_law_doors_here", "_law_room_here", "_law_steps_here"] sp__law_bare := by
  refine def_g (lev := 0) A sc__law_bare (fun _ _ _ _ _ _ us hl => match us, hl with | [_, _, _], _ => rfl) (fun ν as k h => ?_) fun f cdv A outer s H E st hr W hW ok ν as k h => ?_
  · obtain ⟨dd, room, es, rfl, hl, hk⟩ := h
    rfl
  · obtain ⟨dd, room, es, rfl, hl, hk⟩ := h
    subst hW
    refine r_one (s_ret (q_tup (qa_cons (q_v 1 ⟨_, rfl, qa_cons (q_repT (q_tup (qa_cons (q_int (qa_nil ⟨_, rfl, by simp, ⟨_, rfl, q_add (q_len B.len (q_v 2 ⟨_, rfl, ⟨_, rfl, ⟨_, rfl, q_int ⟨_, rfl, ⟨(es.map eP).length, rfl, ?_, qa_cons (q_toTup B.tuple (q_v 2 ⟨_, rfl, ⟨_, rfl, qa_nil ⟨_, rfl, by simp, ⟨rfl, ?_⟩⟩⟩⟩))⟩⟩⟩⟩⟩))⟩⟩)))))⟩))))
    · rw [List.length_map]
      omega
    · have e : eW ⟨room, List.replicate (es.length + 1) 0, es⟩ = .tuple [.int room, .tuple (List.replicate ((es.map eP).length + 1) (.int 0)), .tuple (es.map eP)] := by
        unfold eW
        rw [List.length_map]
        simp only [eIs, List.map_replicate]
      rw [e] at hk
      exact hk
end
end PF


set_option maxHeartbeats 4000000
/-! D15 -/
namespace PF
open PySem PySem.Spec PyProof.Rows L2 QL PR
theorem zip_getM {α β : Type} {f : α → D} {g : β → D} {a : List α} {b : List β} {i : Nat} {d : D} (h : (zipD (a.map f) (b.map g))[i]? = some d) : ∃ x z, a[i]? = some x ∧ b[i]? = some z ∧ d = .tuple [f x, g z] := by
  unfold zipD at h
  rw [List.getElem?_zipWith, List.getElem?_map, List.getElem?_map] at h
  cases h1 : a[i]? with
  | none =>
    rw [h1] at h
    cases h
  | some x =>
    cases h2 : b[i]? with
    | none =>
      rw [h1, h2] at h
      cases h
    | some z =>
      rw [h1, h2] at h
      simp at h
      exact ⟨x, z, rfl, rfl, h.symm⟩
theorem fmod_absE {u l : Int} : u.fmod (if l < 0 then -l else l) = u % l := by
  split
  · rw [Int.fmod_eq_emod_of_nonneg _ (by omega), Int.emod_neg]
  · rw [Int.fmod_eq_emod_of_nonneg _ (by omega)]
theorem ixN_neg1 {n : Nat} (h : 0 < n) : ixN n (-1) = some (n - 1) := by
  unfold ixN
  rw [if_neg (by decide), if_pos (by omega)]
  congr 1
  omega
theorem set_last {α : Type} (xs : List α) (a b : α) (n : Nat) (h : n = xs.length) : (xs ++ [a]).set n b = xs ++ [b] := by
  subst h
  simp
theorem mapset {α : Type} {f : α → D} (xs : List α) (a b : α) (n : Nat) (h : n = xs.length) : ((xs ++ [a]).map f).set n (f b) = (xs ++ [b]).map f := by
  rw [List.map_append, List.map_append]
  exact set_last _ _ _ _ (by rw [List.length_map]; exact h)
/-- the law's turn: does the last step go -/
def popsB (ds : List Door) (s : S) (e : Pass) : Bool :=
  match s.1 with
  | [] => false
  | (_, f) :: _ => decide (f = inv e) && decide (s.2 % lv ds e = 0)
theorem pas_pops {ds : List Door} {p : Int} {f e : Pass} {st : Stk} {u : Int} (h : popsB ds ((p, f) :: st, u) e = true) : pas ds ((p, f) :: st, u) e = (st, p + u / lv ds e * ar ds e) ∧ u % lv ds e = 0 := by
  have h' : (decide (f = inv e) && decide (u % lv ds e = 0)) = true := h
  rw [Bool.and_eq_true_iff] at h'
  have h1 := of_decide_eq_true h'.1
  have h2 := of_decide_eq_true h'.2
  refine ⟨?_, h2⟩
  show (if f = inv e ∧ u % lv ds e = 0 then _ else _) = _
  rw [if_pos ⟨h1, h2⟩]
theorem pas_stays {ds : List Door} {e : Pass} {st : Stk} {u : Int} (h : popsB ds (st, u) e = false) : pas ds (st, u) e = ((u % lv ds e, e) :: st, u / lv ds e * ar ds e) := by
  cases st with
  | nil => rfl
  | cons q st =>
    obtain ⟨p, f⟩ := q
    show (if f = inv e ∧ u % lv ds e = 0 then _ else _) = _
    rw [if_neg]
    rintro ⟨h1, h2⟩
    have h' : (decide (f = inv e) && decide (u % lv ds e = 0)) = false := h
    rw [decide_eq_true h1, decide_eq_true h2] at h'
    cases h'
section
variable {P : Program} {w : World} {K : PySem.W.Frag} {mg : Str → Option Value} {base : Heap} {C : Addr}
/-! ### _law_plain -/
abbrev s__law_plain : Stmt := topS 100
theorem sc__law_plain : FnScope ["_law_doors_here", "_law_walk_here", "_law_pulls_here", "_law_steps_here", "_law_step", "_law_more", "_law_here", "_law_leaving", "_law_there", "_law_arriving", "_law_now", "_law_rest_here"] ["_law_doors_here", "_law_walk_here"] (defScope s__law_plain) := ⟨rfl, rfl, rfl, by decide +kernel, rfl, by decide +kernel, by decide +kernel⟩
def sp__law_plain : Spc := fun ν as k => ∃ rooms ds wk r, as = [.d (eDs ds), .d (eW wk)] ∧ Hs rooms ds ∧ WOk ds wk r ∧ wk.passes.length ≤ 200 ∧ k ν (.d (eW (nfW ds wk)))
theorem ok__law_plain (A : At K mg "_law_plain" s__law_plain) (B : Bi mg) (T : Tx K mg C) (HF : HouseF K C) (G__law_gate : FnG P w K mg base C 1 "_law_gate" ["_law_doors_here", "_law_step"] sp__law_gate) : FnG P w K mg base C 2 "_law_plain" ["_law_doors_here", "_law_walk_here"] sp__law_plain := by
  refine def_g (lev := 1) A sc__law_plain (fun _ _ _ _ _ _ us hl => match us, hl with | [_, _], _ => rfl) (fun ν as k h => ?_) fun f cdv A outer s H E st hr W hW ok ν as k h => ?_
  · obtain ⟨rooms, ds, wk, r, rfl, hs, hw, hl, hk⟩ := h
    rfl
  · obtain ⟨rooms, ds, wk, r, rfl, hs, hw, hl, hk⟩ := h
    subst hW
    have hlw := hw.len
    have hpn : wk.pulls ≠ [] := ne_nil_of hw.len
    refine r_cons (s_par 2 3 ok (qa_cons (q_lst (qa_cons (q_ix (q_ix (q_v 1 ⟨_, rfl, ⟨_, rfl, q_int ⟨_, _, rfl, rfl, ⟨_, rfl, q_int ⟨_, _, rfl, atI_headD hpn 0, qa_nil ⟨_, rfl, by simp, fun p => qa_cons (q_lst (qa_nil ⟨_, rfl, by simp, fun q => qa_nil ⟨_, _, rfl, rfl, rfl, ?_⟩⟩))⟩⟩⟩⟩⟩⟩)))))))
    have ecut : QL.cutD (wk.pulls.map PyData.int) (some 1) none = wk.pulls.tail.map PyData.int := cut_tail
    have e00 : act ds (wdL (0 :: wk.pulls.tail) wk.passes) ([], wk.pulls.headD 0) = act ds wk.wd s0 := by
      unfold Walk.wd
      cases hp : wk.pulls with
      | nil => exact absurd hp hpn
      | cons p0 ps =>
        have := act_headx (ds := ds) (q := 0) (c := p0) (ps := ps) (es := wk.passes) (s := s0)
        rw [Int.zero_add] at this
        rw [this]
        rfl
    refine r_cons (s_forN [4, 5] ok (pgs_cons (pg_name (i := 4) ok.nd rfl (.inl rfl)) (pgs_cons (pg_name (i := 5) ok.nd rfl (.inl rfl)) (pgs_nil))) (qi_zip B.zip (q_ix (q_v 1 ⟨_, rfl, ⟨_, rfl, q_int ⟨_, _, rfl, rfl, ⟨_, rfl, q_sl10 (q_ix (q_v 1 ⟨_, rfl, ⟨_, rfl, q_int ⟨_, _, rfl, rfl, ⟨_, rfl, q_int ⟨_, rfl, ⟨_, rfl, ⟨fun _ => trivial, fun i Γ => ∃ (st : Stk) (u : Int) (x4 x5 x6 x7 x8 x9 x10 x11 : Option Sl), act ds (wdL (0 :: wk.pulls.tail.drop i) (wk.passes.drop i)) (st, u) = act ds wk.wd s0 ∧ st.length ≤ i ∧ Γ = [some (.d (eDs ds)), some (.d (eW wk)), some (.o p (((st.map (·.1)).reverse ++ [u]).map PyData.int)), some (.o q ((st.map (·.2)).reverse.map eP)), x4, x5, x6, x7, x8, x9, x10, x11], ⟨[], wk.pulls.headD 0, _, _, _, _, _, _, _, _, e00, Nat.le_refl _, rfl⟩, fun i d Γ hd iv => ?_, fun Γ iv => ?_⟩⟩⟩⟩⟩⟩⟩))⟩⟩⟩⟩))))
    · rw [ecut] at hd
      obtain ⟨st, u, x4, x5, x6, x7, x8, x9, x10, x11, hact, hst, rfl⟩ := iv
      obtain ⟨e, m, he, hm, rfl⟩ := zip_getM hd
      refine ⟨_, rfl, rfl, fun gh => ?_⟩
      have hpe := hw.path.mem e (List.mem_of_getElem? he)
      have hg := gate_dok hs hpe
      have ha := abs_of hg.one
      have hi : i < wk.passes.length := (List.getElem?_eq_some_iff.mp he).1
      rw [drop_cons he, drop_cons hm] at hact
      have hact2 : act ds (wdL (0 :: wk.pulls.tail.drop (i + 1)) (wk.passes.drop (i + 1))) ((pas ds (st, u) e).1, (pas ds (st, u) e).2 + m) = act ds wk.wd s0 := by
        rw [← hact]
        have := act_headx (ds := ds) (q := 0) (c := m) (ps := wk.pulls.tail.drop (i + 1)) (es := wk.passes.drop (i + 1)) (s := pas ds (st, u) e)
        rw [Int.zero_add] at this
        rw [← this]
        show _ = act ds (wdL (m :: wk.pulls.tail.drop (i + 1)) (wk.passes.drop (i + 1))) (pas ds (st, u + 0) e)
        rw [Int.add_zero]
      have e1 : atI (((st.map (·.1)).reverse ++ [u]).map PyData.int) (-1) = some (.int u) := by
        rw [List.map_append]
        exact atI_last _ _
      refine r_cons (s_tup [6, 7, 8, 9] (ok.push gh) (pgs_cons (pg_name (i := 6) ok.nd rfl (.inl rfl)) (pgs_cons (pg_name (i := 7) ok.nd rfl (.inl rfl)) (pgs_cons (pg_name (i := 8) ok.nd rfl (.inl rfl)) (pgs_cons (pg_name (i := 9) ok.nd rfl (.inl rfl)) (pgs_nil))))) (q_call G__law_gate (hr.mono (by decide)) (qa_cons (q_v 0 ⟨_, rfl, qa_cons (q_v 4 ⟨_, rfl, qa_nil ⟨rfl, ⟨_, _, rfl, hpe, ⟨_, rfl, rfl, ?_⟩⟩⟩⟩)⟩))))
      refine r_cons (s_set 10 (ok.push gh) (q_ixL (q_v 2 ⟨_, rfl, ⟨_, rfl, q_neg (q_int ⟨_, rfl, ⟨_, _, rfl, e1, ⟨rfl, ?_⟩⟩⟩)⟩⟩)))
      refine r_one (s_if (QT.mono (kb := fun ν1 b => ν1 = ν ∧ b = popsB ds (st, u) e) ?_ ?_))
      · cases st with
        | nil => exact qt_w (qw_andF1 (qt_cv (c_neNl (q_v 3 ⟨_, rfl, ⟨_, rfl, rfl, ⟨_, rfl, ⟨rfl, rfl, rfl⟩⟩⟩⟩) (ok.push gh))))
        | cons q0 st =>
          obtain ⟨p0, f0⟩ := q0
          have e2 : ((((p0, f0) :: st).map (·.2)).reverse.map eP) = (st.map (·.2)).reverse.map eP ++ [eP f0] := by
            rw [List.map_cons, List.reverse_cons, List.map_append]
            rfl
          have e3 : atI ((((p0, f0) :: st).map (·.2)).reverse.map eP) (-1) = some (eP f0) := by
            rw [e2]
            exact atI_last _ _
          have e4 : (!((((p0, f0) :: st).map (·.2)).reverse.map eP).isEmpty) = true := by
            rw [e2]
            simp
          have e5 : ((inv e).1, (inv e).2) = inv e := rfl
          by_cases hf : f0 = inv e
          · have c1 : PyData.eqv (eP f0) (eP (inv e)) = true := by
              rw [eqv_P]
              exact decide_eq_true hf
            refine qt_w (qw_andT (qt_cv (c_neNl (q_v 3 ⟨_, rfl, ⟨_, rfl, Lows.h, ⟨_, rfl, ⟨e4, qw_andT (qt_cv (c_eqP (q_ixL (q_v 3 ⟨_, rfl, ⟨_, rfl, q_neg (q_int ⟨_, rfl, ⟨_, _, rfl, e3, ⟨_, rfl, Low.h, q_tup (qa_cons (q_ix (q_v 4 ⟨_, rfl, ⟨_, rfl, q_int ⟨_, _, rfl, rfl, qa_cons (q_sub (q_int ⟨_, rfl, q_ix (q_v 4 ⟨_, rfl, ⟨_, rfl, q_int ⟨_, _, rfl, rfl, ⟨_, rfl, qa_nil ⟨_, rfl, by simp, ⟨_, rfl, Low.h, ⟨_, rfl, ⟨c1, qw_and1 (qt_cv (c_eqI (q_mod (q_toInt B.int (q_v 10 ⟨_, rfl, ⟨_, rfl, ⟨_, rfl, q_abs B.abs (q_v 7 ⟨_, rfl, ⟨_, rfl, ⟨_, rfl, ha.1, ⟨_, rfl, q_int ⟨_, rfl, ⟨_, rfl, ⟨rfl, ?_⟩⟩⟩⟩⟩⟩⟩)⟩⟩⟩)))))⟩⟩⟩⟩⟩⟩⟩⟩)⟩))⟩⟩⟩)))⟩⟩⟩)⟩⟩)) (ok.push gh)))⟩⟩⟩⟩) (ok.push gh))))
            rw [fmod_absE]
            show decide (u % lv ds e = 0) = (decide (f0 = inv e) && decide (u % lv ds e = 0))
            rw [decide_eq_true hf, Bool.true_and]
          · have c1 : PyData.eqv (eP f0) (eP (inv e)) = false := by
              rw [eqv_P]
              exact decide_eq_false hf
            have c2 : false = popsB ds ((p0, f0) :: st, u) e := by
              show false = (decide (f0 = inv e) && decide (u % lv ds e = 0))
              rw [decide_eq_false hf, Bool.false_and]
            exact qt_w (qw_andT (qt_cv (c_neNl (q_v 3 ⟨_, rfl, ⟨_, rfl, Lows.h, ⟨_, rfl, ⟨e4, qw_andF1 (qt_cv (c_eqP (q_ixL (q_v 3 ⟨_, rfl, ⟨_, rfl, q_neg (q_int ⟨_, rfl, ⟨_, _, rfl, e3, ⟨_, rfl, Low.h, q_tup (qa_cons (q_ix (q_v 4 ⟨_, rfl, ⟨_, rfl, q_int ⟨_, _, rfl, rfl, qa_cons (q_sub (q_int ⟨_, rfl, q_ix (q_v 4 ⟨_, rfl, ⟨_, rfl, q_int ⟨_, _, rfl, rfl, ⟨_, rfl, qa_nil ⟨_, rfl, by simp, ⟨_, rfl, Low.h, ⟨_, rfl, ⟨c1, rfl, c2⟩⟩⟩⟩⟩⟩⟩⟩)⟩))⟩⟩⟩)))⟩⟩⟩)⟩⟩)) (ok.push gh)))⟩⟩⟩⟩) (ok.push gh))))
      rintro ν1 b ⟨rfl, rfl⟩
      refine ⟨fun hb => ?_, fun hb => ?_⟩
      · cases st with
        | nil => cases hb
        | cons q0 st =>
          obtain ⟨p0, f0⟩ := q0
          obtain ⟨pp, hu0⟩ := pas_pops hb
          rw [pp] at hact2
          have d1 : ((((p0, f0) :: st).map (·.2)).reverse.map eP).dropLast = (st.map (·.2)).reverse.map eP := by
            rw [List.map_cons, List.reverse_cons, List.map_append]
            exact List.dropLast_concat
          have d2 : (((((p0, f0) :: st).map (·.1)).reverse ++ [u]).map PyData.int).dropLast = ((st.map (·.1)).reverse ++ [p0]).map PyData.int := by
            rw [List.map_append]
            have : (List.map PyData.int ((List.map (fun x => x.fst) ((p0, f0) :: st)).reverse) ++ List.map PyData.int [u]).dropLast = List.map PyData.int ((List.map (fun x => x.fst) ((p0, f0) :: st)).reverse) := List.dropLast_concat
            rw [this, List.map_cons, List.reverse_cons]
          have n1 : ((((p0, f0) :: st).map (·.2)).reverse.map eP) ≠ [] := by simp
          have n2 : (((((p0, f0) :: st).map (·.1)).reverse ++ [u]).map PyData.int) ≠ [] := by simp
          have e6 : atI (((st.map (·.1)).reverse ++ [p0]).map PyData.int) (-1) = some (.int p0) := by
            rw [List.map_append]
            exact atI_last _ _
          have e7 : ixN (((st.map (·.1)).reverse ++ [p0]).map PyData.int).length (-1) = some st.length := by
            rw [ixN_neg1 (by simp)]
            simp
          refine r_cons (s_pop 3 rfl n1 ?_)
          rw [d1]
          refine r_cons (s_pop 2 rfl n2 ?_)
          rw [d2]
          refine r_one (s_setItem 2 (ok.push gh) rfl (q_add (q_add (q_ixL (q_v 2 ⟨_, rfl, ⟨_, rfl, q_neg (q_int ⟨_, rfl, ⟨_, _, rfl, e6, ⟨_, rfl, q_mul (q_fdiv (q_v 10 ⟨_, rfl, ⟨_, rfl, q_v 7 ⟨_, rfl, ⟨_, rfl, sdiv hg.one.1 hg.one.2, ⟨_, rfl, q_v 9 ⟨_, rfl, ⟨_, rfl, smul' hg.two.2, ⟨_, rfl, ⟨_, rfl, q_v 5 ⟨_, rfl, ⟨_, rfl, ⟨_, rfl, q_neg (q_int ⟨_, rfl, ⟨_, _, rfl, e7, ⟨rfl, st, p0 + u / lv ds e * ar ds e + m, some (.d (eP e)), some (.d (.int m)), some (.d (.int (gate ds e).1)), some (.d (.int (gate ds e).2.1)), some (.d (.int (gate ds e).2.2.1)), some (.d (.int (gate ds e).2.2.2)), some (.d (.int u)), x11, hact2, ?_, ?_⟩⟩⟩)⟩⟩⟩⟩⟩⟩⟩⟩⟩⟩⟩⟩))⟩⟩⟩)⟩⟩)))))
          · have : st.length + 1 ≤ i := hst
            omega
          · rw [fdiv_ex hg.one.1 hu0, mapset (f := PyData.int) _ _ _ _ (by simp)]
            rfl
      · have pp := pas_stays hb
        rw [pp] at hact2
        have e7 : ixN (((st.map (·.1)).reverse ++ [u]).map PyData.int).length (-1) = some st.length := by
          rw [ixN_neg1 (by simp)]
          simp
        refine r_cons (s_set 11 (ok.push gh) (q_mod (q_toInt B.int (q_v 10 ⟨_, rfl, ⟨_, rfl, ⟨_, rfl, q_abs B.abs (q_v 7 ⟨_, rfl, ⟨_, rfl, ⟨_, rfl, ha.1, ⟨rfl, ?_⟩⟩⟩⟩)⟩⟩⟩))))
        rw [fmod_absE]
        refine r_cons (s_setItem 2 (ok.push gh) rfl (q_v 11 ⟨_, rfl, ⟨_, rfl, q_neg (q_int ⟨_, rfl, ⟨_, _, rfl, e7, ?_⟩⟩)⟩⟩))
        refine r_cons (s_append 3 rfl (q_v 4 ⟨_, rfl, ⟨_, rfl, by simp; omega, ?_⟩⟩))
        refine r_one (s_append 2 rfl (q_add (q_mul (q_fdiv (q_sub (q_v 10 ⟨_, rfl, ⟨_, rfl, q_v 11 ⟨_, rfl, ⟨_, rfl, ⟨_, rfl, q_v 7 ⟨_, rfl, ⟨_, rfl, sdiv hg.one.1 hg.one.2, ⟨_, rfl, q_v 9 ⟨_, rfl, ⟨_, rfl, smul' hg.two.2, ⟨_, rfl, q_v 5 ⟨_, rfl, ⟨_, rfl, ⟨_, rfl, by simp; omega, ⟨rfl, (u % lv ds e, e) :: st, u / lv ds e * ar ds e + m, some (.d (eP e)), some (.d (.int m)), some (.d (.int (gate ds e).1)), some (.d (.int (gate ds e).2.1)), some (.d (.int (gate ds e).2.2.1)), some (.d (.int (gate ds e).2.2.2)), some (.d (.int u)), some (.d (.int (u % lv ds e))), hact2, by simp; omega, ?_⟩⟩⟩⟩⟩⟩⟩⟩⟩⟩⟩⟩⟩⟩⟩))))))
        have e8 : (u - u % (gate ds e).2.1).fdiv (gate ds e).2.1 = u / lv ds e := sub_mod_fdiv hg.one.1
        rw [e8, mapset (f := PyData.int) _ _ _ _ (by simp), List.map_cons, List.reverse_cons, List.map_cons, List.reverse_cons, List.map_append (l₂ := [u / lv ds e * ar ds e + m]), List.map_append (f := eP) (l₂ := [e])]
        rfl
    · obtain ⟨st, u, x4, x5, x6, x7, x8, x9, x10, x11, hact, hst, rfl⟩ := iv
      have hzl : (zipD (wk.passes.map eP) (QL.cutD (wk.pulls.map PyData.int) (some 1) none)).length = wk.passes.length := by
        rw [ecut]
        unfold zipD
        rw [List.length_zipWith, List.length_map, List.length_map, List.length_tail]
        omega
      rw [hzl, List.drop_eq_nil_of_le (Nat.le_refl _), List.drop_eq_nil_of_le (by rw [List.length_tail]; omega)] at hact
      have hact' : (st, u + 0) = act ds wk.wd s0 := hact
      rw [Int.add_zero] at hact'
      have e9 : nfW ds wk = ⟨wk.room, (st.map (·.1)).reverse ++ [u], (st.map (·.2)).reverse⟩ := by
        unfold nfW
        rw [← hact']
        rfl
      rw [e9] at hk
      exact r_one (s_ret (q_tup (qa_cons (q_ix (q_v 1 ⟨_, rfl, ⟨_, rfl, q_int ⟨_, _, rfl, rfl, qa_cons (q_toTup B.tuple (q_v 2 ⟨_, rfl, ⟨_, rfl, qa_cons (q_toTup B.tuple (q_v 3 ⟨_, rfl, ⟨_, rfl, qa_nil ⟨_, rfl, by simp, ⟨rfl, hk⟩⟩⟩⟩))⟩⟩))⟩⟩⟩)))))
end
end PF


set_option maxHeartbeats 4000000
/-! D16 -/
namespace PF
open PySem PySem.Spec PyProof.Rows L2 QL PR
theorem filt_none (xs : List D) (f : D → D) : (xs.filter fun _ => false).map f = [] := by
  induction xs with
  | nil => rfl
  | cons x xs ih => exact ih
section
variable {P : Program} {w : World} {K : PySem.W.Frag} {mg : Str → Option Value} {base : Heap} {C : Addr}
/-! ### _law_is_walk -/
abbrev s__law_is_walk : Stmt := topS 101
theorem sc__law_is_walk : FnScope ["_law_doors_here", "_law_rooms_here", "_law_thing", "_law_here", "_law_step", "_law_item"] ["_law_doors_here", "_law_rooms_here", "_law_thing"] (defScope s__law_is_walk) := ⟨rfl, rfl, rfl, by decide +kernel, rfl, by decide +kernel, by decide +kernel⟩
def sp__law_is_walk : Spc := fun ν as k => ∃ rooms ds wk r, as = [.d (eDs ds), .d (eI rooms), .d (eW wk)] ∧ WOk ds wk r ∧ (0 ≤ wk.room ∧ wk.room < rooms) ∧ wk.passes.length ≤ 500 ∧ k ν (.d (.bool true))
theorem ok__law_is_walk (A : At K mg "_law_is_walk" s__law_is_walk) (B : Bi mg) (T : Tx K mg C) (HF : HouseF K C) (G__law_gate : FnG P w K mg base C 1 "_law_gate" ["_law_doors_here", "_law_step"] sp__law_gate) (G__law_is_whole : FnG P w K mg base C 1 "_law_is_whole" ["_law_item"] sp__law_is_whole) : FnG P w K mg base C 2 "_law_is_walk" ["_law_doors_here", "_law_rooms_here", "_law_thing"] sp__law_is_walk := by
  refine def_g (lev := 1) A sc__law_is_walk (fun _ _ _ _ _ _ us hl => match us, hl with | [_, _, _], _ => rfl) (fun ν as k h => ?_) fun f cdv A outer s H E st hr W hW ok ν as k h => ?_
  · obtain ⟨rooms, ds, wk, r, rfl, hw, hr0, hl, hk⟩ := h
    rfl
  · obtain ⟨rooms, ds, wk, r, rfl, hw, hr0, hl, hk⟩ := h
    subst hW
    have hlw := hw.len
    have c0 : decide ((0 : Int) ≤ wk.room) = true := decide_eq_true hr0.1
    have c1 : decide (wk.room < rooms) = true := decide_eq_true hr0.2
    have c2 : (!decide (((wk.pulls.map PyData.int).length : Int) = ((wk.passes.map eP).length : Int) + 1)) = false := by
      rw [List.length_map, List.length_map, hw.len]
      simp
    have h3 : lowDs 9 (((wk.pulls.map PyData.int).filter fun _ => false).map fun _ => .int 1) = true := by
      rw [filt_none]
      rfl
    have c3 : (!(((wk.pulls.map PyData.int).filter fun _ => false).map fun _ => PyData.int 1).isEmpty) = false := by
      rw [filt_none]
      rfl
    refine r_cons (s_ifF (qt_w (qw_orF (qt_notF (qt_v (q_isTup B.isinstance B.tuple (q_v 2 ⟨_, rfl, ⟨_, rfl, rfl, ⟨_, rfl, ⟨(by first | rfl | (simp; done) | assumption), qw_or1 (qt_cv (c_neI (q_len B.len (q_v 2 ⟨_, rfl, ⟨_, rfl, ⟨_, rfl, q_int ⟨_, rfl, ⟨_, rfl, ⟨(by first | rfl | (simp; done) | assumption), ?_⟩⟩⟩⟩⟩⟩))))⟩⟩⟩⟩)))))))
    refine r_cons (s_ifF (qt_w (qw_orF (qt_notF (qt_v (q_call G__law_is_whole (hr.mono (by decide)) (qa_cons (q_ix (q_v 2 ⟨_, rfl, ⟨_, rfl, q_int ⟨_, _, rfl, rfl, qa_nil ⟨rfl, ⟨_, rfl, Low.h, ⟨_, rfl, ⟨rfl, qw_or1 (qt_notF (qt_chain op_le op_lt (by with_unfolding_all rfl) (q_int ⟨_, rfl, q_ix (q_v 2 ⟨_, rfl, ⟨_, rfl, q_int ⟨_, _, rfl, rfl, ⟨_, rfl, fun hc => q_v 1 ⟨_, rfl, ⟨_, rfl, ⟨c1, ?_⟩⟩⟩, fun hc => absurd (hc.symm.trans c0) (by decide)⟩⟩⟩⟩)⟩)))⟩⟩⟩⟩⟩⟩⟩)))))))))
    refine r_cons (s_ifF (qt_w (qw_orF (qt_notF (qt_v (q_isTup B.isinstance B.tuple (q_ix (q_v 2 ⟨_, rfl, ⟨_, rfl, q_int ⟨_, _, rfl, rfl, ⟨_, rfl, rfl, ⟨_, rfl, ⟨rfl, qw_or1 (qt_cv (c_neNl (q_lc ok (qc1t 5 (fun _ => false) (fun _ => .int 1) ok (qi_tup (q_ix (q_v 2 ⟨_, rfl, ⟨_, rfl, q_int ⟨_, _, rfl, rfl, ⟨_, rfl, ⟨trivial, ?_, fun i d hd => ⟨?_, fun ht => (nomatch ht)⟩, fun p => ⟨_, rfl, h3, ⟨_, rfl, ⟨c3, ?_⟩⟩⟩⟩⟩⟩⟩⟩))) (hg := (fun _ _ _ _ _ => pg_name ok.nd rfl (.inl rfl))))) ok))⟩⟩⟩⟩⟩⟩))))))))
    · rw [List.length_map]
      omega
    · obtain ⟨x, hx, rfl⟩ := getMap hd
      exact fun gh s H C cl fp => qt_not (qt_v (q_call G__law_is_whole (hr.mono (by decide)) (qa_cons (q_v 5 ⟨_, rfl, qa_nil ⟨rfl, ⟨_, rfl, Low.h, ⟨_, rfl, ⟨rfl, rfl⟩⟩⟩⟩⟩))))
    refine r_cons (s_ifF (qt_w (qw_orF (qt_notF (qt_v (q_isTup B.isinstance B.tuple (q_ix (q_v 2 ⟨_, rfl, ⟨_, rfl, q_int ⟨_, _, rfl, rfl, ⟨_, rfl, rfl, ⟨_, rfl, ⟨rfl, qw_or1 (qt_cv (c_neI (q_len B.len (q_ix (q_v 2 ⟨_, rfl, ⟨_, rfl, q_int ⟨_, _, rfl, rfl, ⟨_, rfl, ⟨_, rfl, q_add (q_len B.len (q_ix (q_v 2 ⟨_, rfl, ⟨_, rfl, q_int ⟨_, _, rfl, rfl, ⟨_, rfl, ⟨_, rfl, q_int ⟨_, rfl, ⟨_, rfl, ⟨_, rfl, ⟨c2, ?_⟩⟩⟩⟩⟩⟩⟩⟩⟩)))⟩⟩⟩⟩⟩)))))⟩⟩⟩⟩⟩⟩))))))))
    refine r_cons (s_set 3 ok (q_ix (q_v 2 ⟨_, rfl, ⟨_, rfl, q_int ⟨_, _, rfl, rfl, ⟨rfl, ?_⟩⟩⟩⟩)))
    refine r_cons (s_for 4 ok (qi_tup (q_ix (q_v 2 ⟨_, rfl, ⟨_, rfl, q_int ⟨_, _, rfl, rfl, ⟨_, rfl, ⟨fun _ => trivial, fun i Γ => ∃ here x4 x5, Path ds here (wk.passes.drop i) r ∧ Γ = [some (.d (eDs ds)), some (.d (eI rooms)), some (.d (eW wk)), some (.d (eI here)), x4, x5], ⟨wk.room, _, _, hw.path, rfl⟩, fun i d Γ hd iv gh => ?_, fun Γ iv => ?_⟩⟩⟩⟩⟩))))
    · obtain ⟨here, x4, x5, hq, rfl⟩ := iv
      obtain ⟨e, he, rfl⟩ := getMap hd
      rw [drop_cons he] at hq
      obtain ⟨q1, q2, q3⟩ := hq
      have d0 : decide ((0 : Int) ≤ e.1) = true := decide_eq_true q1.1.1
      have d1 : decide (e.1 < ((ds.map eDo).length : Int)) = true := by
        rw [List.length_map]
        exact decide_eq_true q1.1.2
      have d2 : (!([(0 : Int), 1].contains e.2)) = false := by
        rcases q1.2 with h | h
        · rw [h]
          rfl
        · rw [h]
          rfl
      have d3 : (!decide ((gate ds e).1 = here)) = false := by
        rw [decide_eq_true (show (gate ds e).1 = here from q2)]
        rfl
      refine r_cons (s_ifF (qt_w (qw_orF (qt_notF (qt_v (q_isTup B.isinstance B.tuple (q_v 4 ⟨_, rfl, ⟨_, rfl, rfl, ⟨_, rfl, ⟨rfl, qw_orF (qt_cv (c_neI (q_len B.len (q_v 4 ⟨_, rfl, ⟨_, rfl, ⟨_, rfl, q_int ⟨_, rfl, ⟨_, rfl, ⟨rfl, qw_orF (qt_notF (qt_v (q_call G__law_is_whole (hr.mono (by decide)) (qa_cons (q_ix (q_v 4 ⟨_, rfl, ⟨_, rfl, q_int ⟨_, _, rfl, rfl, qa_nil ⟨rfl, ⟨_, rfl, Low.h, ⟨_, rfl, ⟨rfl, qw_or1 (qt_notF (qt_v (q_call G__law_is_whole (hr.mono (by decide)) (qa_cons (q_ix (q_v 4 ⟨_, rfl, ⟨_, rfl, q_int ⟨_, _, rfl, rfl, qa_nil ⟨rfl, ⟨_, rfl, Low.h, ⟨_, rfl, ⟨rfl, ?_⟩⟩⟩⟩⟩⟩⟩))))))⟩⟩⟩⟩⟩⟩⟩))))))⟩⟩⟩⟩⟩⟩))))⟩⟩⟩⟩)))))))
      refine r_cons (s_ifF (qt_w (qw_orF (qt_notF (qt_chain op_le op_lt (by with_unfolding_all rfl) (q_int ⟨_, rfl, q_ix (q_v 4 ⟨_, rfl, ⟨_, rfl, q_int ⟨_, _, rfl, rfl, ⟨_, rfl, fun hc => q_len B.len (q_v 0 ⟨_, rfl, ⟨_, rfl, ⟨_, rfl, ⟨d1, qw_orF (qt_cv (c_notinT (q_ix (q_v 4 ⟨_, rfl, ⟨_, rfl, q_int ⟨_, _, rfl, rfl, ⟨_, rfl, q_tup (qa_cons (q_int (qa_cons (q_int (qa_nil ⟨_, rfl, by simp, ⟨[0, 1], rfl, ⟨_, rfl, ⟨d2, qw_or1 (qt_cv (c_neI (q_ix (q_call G__law_gate (hr.mono (by decide)) (qa_cons (q_v 0 ⟨_, rfl, qa_cons (q_v 4 ⟨_, rfl, qa_nil ⟨rfl, ⟨_, _, rfl, q1, ⟨_, rfl, q_int ⟨_, _, rfl, rfl, ⟨_, rfl, q_v 3 ⟨_, rfl, ⟨_, rfl, ⟨_, rfl, ⟨d3, ?_⟩⟩⟩⟩⟩⟩⟩⟩⟩⟩)⟩))))))⟩⟩⟩⟩)))))⟩⟩⟩⟩))))⟩⟩⟩⟩), fun hc => absurd (hc.symm.trans d0) (by decide)⟩⟩⟩⟩)⟩))))))
      exact r_one (s_set 3 (ok.push gh) (q_ix (q_call G__law_gate (hr.mono (by decide)) (qa_cons (q_v 0 ⟨_, rfl, qa_cons (q_v 4 ⟨_, rfl, qa_nil ⟨rfl, ⟨_, _, rfl, q1, ⟨_, rfl, q_int ⟨_, _, rfl, rfl, ⟨rfl, rfl, _, _, _, q3, rfl⟩⟩⟩⟩⟩⟩)⟩)))))
    · exact r_one (s_ret (q_bl ⟨rfl, hk⟩))
/-! ### _law_ak_closed -/
abbrev s__law_ak_closed : Stmt := topS 104
theorem sc__law_ak_closed : FnScope ["_law_doors_here", "_law_several", "_law_found", "_law_item"] ["_law_doors_here", "_law_several"] (defScope s__law_ak_closed) := ⟨rfl, rfl, rfl, by decide +kernel, rfl, by decide +kernel, by decide +kernel⟩
def sp__law_ak_closed : Spc := fun ν as k => ∃ (dd : D) (a b c : Walk), as = [.d dd, .b [eW a, eW b, eW c]] ∧ (a.pulls.length = a.passes.length + 1 ∧ b.pulls.length = b.passes.length + 1 ∧ c.pulls.length = c.passes.length + 1) ∧ (a.passes.length ≤ 60 ∧ b.passes.length ≤ 60 ∧ c.passes.length ≤ 60) ∧ k ν (.d (eW ((a.join b).join c)))
theorem ok__law_ak_closed (A : At K mg "_law_ak_closed" s__law_ak_closed) (B : Bi mg) (T : Tx K mg C) (HF : HouseF K C) (G__law_joined : FnG P w K mg base C 1 "_law_joined" ["_law_one", "_law_other"] sp__law_joined) : FnG P w K mg base C 2 "_law_ak_closed" ["_law_doors_here", "_law_several"] sp__law_ak_closed := by
  refine def_g (lev := 1) A sc__law_ak_closed (fun _ _ _ _ _ _ us hl => match us, hl with | [_, _], _ => rfl) (fun ν as k h => ?_) fun f cdv A outer s H E st hr W hW ok ν as k h => ?_
  · obtain ⟨dd, a, b, c, rfl, hn, hl, hk⟩ := h
    rfl
  · obtain ⟨dd, a, b, c, rfl, hn, hl, hk⟩ := h
    subst hW
    have hj := join_len hn.1 hn.2.1
    have hjl : (a.join b).passes.length ≤ 120 := by
      show (a.passes ++ b.passes).length ≤ 120
      rw [List.length_append]
      omega
    refine r_cons (s_set 2 ok (q_ixL (q_v 1 ⟨_, rfl, ⟨_, rfl, q_int ⟨_, _, rfl, rfl, ⟨rfl, ?_⟩⟩⟩⟩)))
    refine r_cons (s_for 3 ok (qi_lst (q_slL10 (q_v 1 ⟨_, rfl, ⟨_, rfl, q_int ⟨_, rfl, fun p => ⟨_, rfl, rfl, ⟨fun _ => trivial, fun i Γ => ∃ w' x3, ((i = 0 ∧ w' = a) ∨ (i = 1 ∧ w' = a.join b) ∨ (i = 2 ∧ w' = (a.join b).join c)) ∧ Γ = [some (.d dd), some (.b [eW a, eW b, eW c]), some (.d (eW w')), x3], ⟨a, _, .inl ⟨rfl, rfl⟩, rfl⟩, fun i d Γ hd iv gh => ?_, fun Γ iv => ?_⟩⟩⟩⟩⟩))))
    · obtain ⟨w', x3, hc, rfl⟩ := iv
      rcases hc with ⟨rfl, rfl⟩ | ⟨rfl, rfl⟩ | ⟨rfl, rfl⟩
      · have hd' : some (eW b) = some d := hd
        cases hd'
        exact r_one (s_set 2 (ok.push gh) (q_call G__law_joined (hr.mono (by decide)) (qa_cons (q_v 2 ⟨_, rfl, qa_cons (q_v 3 ⟨_, rfl, qa_nil ⟨rfl, ⟨w', b, rfl, ⟨hn.1, hn.2.1⟩, ⟨by omega, by omega⟩, ⟨rfl, rfl, _, _, .inr (.inl ⟨rfl, rfl⟩), rfl⟩⟩⟩⟩)⟩))))
      · have hd' : some (eW c) = some d := hd
        cases hd'
        exact r_one (s_set 2 (ok.push gh) (q_call G__law_joined (hr.mono (by decide)) (qa_cons (q_v 2 ⟨_, rfl, qa_cons (q_v 3 ⟨_, rfl, qa_nil ⟨rfl, ⟨a.join b, c, rfl, ⟨hj, hn.2.2⟩, ⟨by omega, by omega⟩, ⟨rfl, rfl, _, _, .inr (.inr ⟨rfl, rfl⟩), rfl⟩⟩⟩⟩)⟩))))
      · have hd' : none = some d := hd
        cases hd'
    · obtain ⟨w', x3, hc, rfl⟩ := iv
      have e : (QL.cutD [eW a, eW b, eW c] (some 1) none).length = 2 := rfl
      rw [e] at hc
      rcases hc with ⟨h, _⟩ | ⟨h, _⟩ | ⟨_, rfl⟩
      · cases h
      · cases h
      · exact r_one (s_ret (q_v 2 ⟨_, rfl, ⟨rfl, hk⟩⟩))
/-! ### _law_ak_led -/
abbrev s__law_ak_led : Stmt := topS 105
theorem sc__law_ak_led : FnScope ["_law_doors_here", "_law_lead_here", "_law_walk_here"] ["_law_doors_here", "_law_lead_here", "_law_walk_here"] (defScope s__law_ak_led) := ⟨rfl, rfl, rfl, by decide +kernel, rfl, by decide +kernel, by decide +kernel⟩
def sp__law_ak_led : Spc := fun ν as k => ∃ ds a b m, as = [.d (eDs ds), .d (eW a), .d (eW b)] ∧ WOk ds a m ∧ b.pulls.length = b.passes.length + 1 ∧ (a.passes.length ≤ 60 ∧ b.passes.length ≤ 60) ∧ k ν (.d (eW (ledW a b m)))
theorem ok__law_ak_led (A : At K mg "_law_ak_led" s__law_ak_led) (B : Bi mg) (T : Tx K mg C) (HF : HouseF K C) (G__law_ak_closed : FnG P w K mg base C 2 "_law_ak_closed" ["_law_doors_here", "_law_several"] sp__law_ak_closed) (G__law_back : FnG P w K mg base C 3 "_law_back" ["_law_doors_here", "_law_walk_here"] sp__law_back) : FnG P w K mg base C 4 "_law_ak_led" ["_law_doors_here", "_law_lead_here", "_law_walk_here"] sp__law_ak_led := by
  refine def_g (lev := 3) A sc__law_ak_led (fun _ _ _ _ _ _ us hl => match us, hl with | [_, _, _], _ => rfl) (fun ν as k h => ?_) fun f cdv A outer s H E st hr W hW ok ν as k h => ?_
  · obtain ⟨ds, a, b, m, rfl, ha, hb, hl, hk⟩ := h
    rfl
  · obtain ⟨ds, a, b, m, rfl, ha, hb, hl, hk⟩ := h
    subst hW
    have hbl : (a.bk m).passes.length ≤ 60 := by
      show (a.passes.reverse.map inv).length ≤ 60
      rw [List.length_map, List.length_reverse]
      omega
    refine r_one (s_ret (q_call G__law_ak_closed (hr.mono (by decide)) (qa_cons (q_v 0 ⟨_, rfl, qa_cons (q_lst (qa_cons (q_v 1 ⟨_, rfl, qa_cons (q_v 2 ⟨_, rfl, qa_cons (q_call G__law_back (hr.mono (by decide)) (qa_cons (q_v 0 ⟨_, rfl, qa_cons (q_v 1 ⟨_, rfl, qa_nil ⟨rfl, ⟨_, _, _, rfl, ha, by omega, qa_nil ⟨_, rfl, by simp, fun p => qa_nil ⟨rfl, ⟨_, a, b, a.bk m, rfl, ⟨ha.len, hb, (bk_ok ha).len⟩, ⟨by omega, by omega, hbl⟩, ⟨rfl, hk⟩⟩⟩⟩⟩⟩⟩)⟩)))⟩)⟩)))⟩))))
/-! ### _law_ak_turns -/
abbrev s__law_ak_turns : Stmt := topS 107
theorem sc__law_ak_turns : FnScope ["_law_doors_here", "_law_core_here", "_law_found", "_law_many", "_law_gone"] ["_law_doors_here", "_law_core_here"] (defScope s__law_ak_turns) := ⟨rfl, rfl, rfl, by decide +kernel, rfl, by decide +kernel, by decide +kernel⟩
def sp__law_ak_turns : Spc := fun ν as k => ∃ rooms ds c, as = [.d (eDs ds), .d (eW c)] ∧ Hs rooms ds ∧ WOk ds c c.room ∧ c.passes.length ≤ 40 ∧ ∀ p, k ν (.f p ((List.range c.passes.length).map fun n => eW (nfW ds (turnW ds c n))))
theorem ok__law_ak_turns (A : At K mg "_law_ak_turns" s__law_ak_turns) (B : Bi mg) (T : Tx K mg C) (HF : HouseF K C) (G__law_ak_led : FnG P w K mg base C 4 "_law_ak_led" ["_law_doors_here", "_law_lead_here", "_law_walk_here"] sp__law_ak_led) (G__law_back : FnG P w K mg base C 3 "_law_back" ["_law_doors_here", "_law_walk_here"] sp__law_back) (G__law_plain : FnG P w K mg base C 2 "_law_plain" ["_law_doors_here", "_law_walk_here"] sp__law_plain) : FnG P w K mg base C 5 "_law_ak_turns" ["_law_doors_here", "_law_core_here"] sp__law_ak_turns := by
  refine def_g (lev := 4) A sc__law_ak_turns (fun _ _ _ _ _ _ us hl => match us, hl with | [_, _], _ => rfl) (fun ν as k h => ?_) fun f cdv A outer s H E st hr W hW ok ν as k h => ?_
  · obtain ⟨rooms, ds, c, rfl, hs, hc, hl, hk⟩ := h
    rfl
  · obtain ⟨rooms, ds, c, rfl, hs, hc, hl, hk⟩ := h
    subst hW
    have hz := hs.nz
    have hlc := hc.len
    refine r_cons (s_set 2 ok (q_lst (qa_nil ⟨_, rfl, by simp, fun p => ⟨rfl, ?_⟩⟩)))
    refine r_cons (s_for 3 ok (qi_range1 B.range (q_len B.len (q_ix (q_v 1 ⟨_, rfl, ⟨_, rfl, q_int ⟨_, _, rfl, rfl, ⟨_, rfl, ⟨_, rfl, ?_, ⟨fun _ => trivial, fun i Γ => ∃ x3 x4, Γ = [some (.d (eDs ds)), some (.d (eW c)), some (.o p ((List.range i).map fun n => eW (nfW ds (turnW ds c n)))), x3, x4], ⟨_, _, rfl⟩, fun i d Γ hd iv gh => ?_, fun Γ iv => ?_⟩⟩⟩⟩⟩⟩)))))
    · rw [List.length_map]
      omega
    · obtain ⟨x3, x4, rfl⟩ := iv
      obtain ⟨i', hi, rfl⟩ := getMap hd
      have hii : i' = i ∧ i < c.passes.length := by
        obtain ⟨h1, h2⟩ := List.getElem?_eq_some_iff.mp hi
        rw [List.length_range, List.length_map] at h1
        rw [List.getElem_range] at h2
        exact ⟨h2.symm, by simpa using h1⟩
      obtain ⟨rfl, hi2⟩ := hii
      have hk' : i' ≤ c.passes.length := by omega
      have go := gone_ok hc hk'
      have gb := bk_ok go
      have gb' : WOk ds ((goneW c i').bk (roomAt ds c i')) c.room := gb
      have lo := led_ok gb' hc rfl
      have gl : (goneW c i').passes.length ≤ 40 := by
        show (c.passes.take i').length ≤ 40
        rw [List.length_take]
        omega
      have gbl : ((goneW c i').bk (roomAt ds c i')).passes.length ≤ 40 := by
        show ((goneW c i').passes.reverse.map inv).length ≤ 40
        rw [List.length_map, List.length_reverse]
        exact gl
      have ll := led_len ((goneW c i').bk (roomAt ds c i')) c c.room
      refine r_cons (s_set 4 (ok.push gh) (q_tup (qa_cons (q_ix (q_v 1 ⟨_, rfl, ⟨_, rfl, q_int ⟨_, _, rfl, rfl, qa_cons (q_cat (q_sl01 (q_ix (q_v 1 ⟨_, rfl, ⟨_, rfl, q_int ⟨_, _, rfl, rfl, ⟨_, rfl, q_v 3 ⟨_, rfl, ⟨_, rfl, ⟨_, rfl, q_tup (qa_cons (q_int (qa_nil ⟨_, rfl, by simp, ⟨_, rfl, ?_, qa_cons (q_sl01 (q_ix (q_v 1 ⟨_, rfl, ⟨_, rfl, q_int ⟨_, _, rfl, rfl, ⟨_, rfl, q_v 3 ⟨_, rfl, ⟨_, rfl, qa_nil ⟨_, rfl, by simp, ⟨rfl, ?_⟩⟩⟩⟩⟩⟩⟩⟩)))⟩⟩)))⟩⟩⟩⟩⟩⟩⟩))))⟩⟩⟩)))))
      · rw [cut_take]
        simp only [List.length_map, List.length_take, List.length_cons, List.length_nil]
        omega
      have eg : eW (goneW c i') = .tuple [.int c.room, .tuple (QL.cutD (c.pulls.map PyData.int) none (some (i' : Int)) ++ [.int 0]), .tuple (QL.cutD (c.passes.map eP) none (some (i' : Int)))] := by
        rw [cut_take, cut_take]
        unfold eW goneW
        simp only [eIs, ePs, List.map_append, List.map_cons, List.map_nil]
      refine r_one (s_append 2 rfl (q_call G__law_plain (hr.mono (by decide)) (qa_cons (q_v 0 ⟨_, rfl, qa_cons (q_call G__law_ak_led (hr.mono (by decide)) (qa_cons (q_v 0 ⟨_, rfl, qa_cons (q_call G__law_back (hr.mono (by decide)) (qa_cons (q_v 0 ⟨_, rfl, qa_cons (q_v 4 ⟨_, rfl, qa_nil ⟨rfl, ⟨ds, goneW c i', roomAt ds c i', by rw [eg]; rfl, go, by omega, qa_cons (q_v 1 ⟨_, rfl, qa_nil ⟨rfl, ⟨_, _, _, c.room, rfl, gb', hlc, ⟨by omega, by omega⟩, qa_nil ⟨rfl, ⟨rooms, _, _, _, rfl, hs, lo, by omega, ⟨_, rfl, ?_, ⟨rfl, some (.d (.int (i' : Int))), some (.d (eW (goneW c i'))), ?_⟩⟩⟩⟩⟩⟩⟩)⟩⟩⟩)⟩)))⟩)))⟩))))
      · rw [List.length_map, List.length_range]
        omega
      · rw [turn_led hz hc hk', List.range_succ, List.map_append, eg]
        rfl
    · obtain ⟨x3, x4, rfl⟩ := iv
      refine r_one (s_ret (q_v 2 ⟨_, rfl, ⟨rfl, ?_⟩⟩))
      have e : ((List.range ((c.passes.map eP).length : Int).toNat).map fun (i : Nat) => PyData.int (i : Int)).length = c.passes.length := by
        rw [List.length_map, List.length_range, Int.toNat_natCast, List.length_map]
      rw [e]
      exact hk p
end
end PF


set_option maxHeartbeats 4000000
/-! D17 -/
namespace PF
open PySem PySem.Spec PyProof.Rows L2 QL PR
section
variable {P : Program} {w : World} {K : PySem.W.Frag} {mg : Str → Option Value} {base : Heap} {C : Addr}
/-! ### _law_ak_core -/
abbrev s__law_ak_core : Stmt := topS 106
theorem sc__law_ak_core : FnScope ["_law_doors_here", "_law_walk_here", "_law_found", "_law_lead_here", "_law_lap", "_law_room_here", "_law_pulls_here", "_law_steps_here", "_law_gone"] ["_law_doors_here", "_law_walk_here"] (defScope s__law_ak_core) := ⟨rfl, rfl, rfl, by decide +kernel, rfl, by decide +kernel, by decide +kernel⟩
def sp__law_ak_core : Spc := fun ν as k => ∃ rooms ds wk, as = [.d (eDs ds), .d (eW wk)] ∧ Hs rooms ds ∧ WOk ds wk wk.room ∧ wk.passes.length ≤ 40 ∧ ∀ lead : Walk, k ν (.d (.tuple [eW lead, eW (coreW ds wk)]))
theorem ok__law_ak_core (A : At K mg "_law_ak_core" s__law_ak_core) (B : Bi mg) (T : Tx K mg C) (HF : HouseF K C) (G__law_ak_led : FnG P w K mg base C 4 "_law_ak_led" ["_law_doors_here", "_law_lead_here", "_law_walk_here"] sp__law_ak_led) (G__law_back : FnG P w K mg base C 3 "_law_back" ["_law_doors_here", "_law_walk_here"] sp__law_back) (G__law_gate : FnG P w K mg base C 1 "_law_gate" ["_law_doors_here", "_law_step"] sp__law_gate) (G__law_joined : FnG P w K mg base C 1 "_law_joined" ["_law_one", "_law_other"] sp__law_joined) (G__law_plain : FnG P w K mg base C 2 "_law_plain" ["_law_doors_here", "_law_walk_here"] sp__law_plain) : FnG P w K mg base C 5 "_law_ak_core" ["_law_doors_here", "_law_walk_here"] sp__law_ak_core := by
  refine def_g (lev := 4) A sc__law_ak_core (fun _ _ _ _ _ _ us hl => match us, hl with | [_, _], _ => rfl) (fun ν as k h => ?_) fun f cdv A outer s H E st hr W hW ok ν as k h => ?_
  · obtain ⟨rooms, ds, wk, rfl, hs, hw, hl, hk⟩ := h
    rfl
  · obtain ⟨rooms, ds, wk, rfl, hs, hw, hl, hk⟩ := h
    subst hW
    have hz := hs.nz
    have hln := nfW_len (ds := ds) hw.len
    refine r_cons (s_par 2 3 ok (qa_cons (q_call G__law_plain (hr.mono (by decide)) (qa_cons (q_v 0 ⟨_, rfl, qa_cons (q_v 1 ⟨_, rfl, qa_nil ⟨rfl, ⟨_, _, _, _, rfl, hs, hw, by omega, qa_cons (q_tup (qa_cons (q_ix (q_v 1 ⟨_, rfl, ⟨_, rfl, q_int ⟨_, _, rfl, rfl, qa_cons (q_tup (qa_cons (q_int (qa_nil ⟨_, rfl, by simp, qa_cons (q_tup (qa_nil ⟨_, rfl, by simp, qa_nil ⟨_, rfl, by simp, qa_nil ⟨_, _, rfl, rfl, rfl, ?_⟩⟩⟩))⟩))))⟩⟩⟩))))⟩⟩⟩)⟩)))))
    refine r_cons (s_for 4 ok (qi_range1 B.range (q_len B.len (q_ix (q_v 2 ⟨_, rfl, ⟨_, rfl, q_int ⟨_, _, rfl, rfl, ⟨_, rfl, ⟨_, rfl, ?_, ⟨fun _ => trivial, fun i Γ => ∃ (lead c : Walk) (x4 x5 x6 x7 x8 : Option Sl), (lead.pulls.length = lead.passes.length + 1 ∧ lead.passes.length ≤ i) ∧ Cr ds c ∧ coreOf ds c = coreW ds wk ∧ c.passes.length + 2 * i ≤ (nfW ds wk).passes.length ∧ Γ = [some (.d (eDs ds)), some (.d (eW wk)), some (.d (eW c)), some (.d (eW lead)), x4, x5, x6, x7, x8], ⟨⟨wk.room, [0], []⟩, nfW ds wk, _, _, _, _, _, ⟨rfl, Nat.le_refl _⟩, cr_nf hz hw, rfl, by omega, rfl⟩, fun i d Γ hd iv gh => ?_, fun Γ iv => ?_⟩⟩⟩⟩⟩⟩)))))
    · rw [List.length_map]
      omega
    · obtain ⟨lead, c, x4, x5, x6, x7, x8, hld, cr, hc, hle, rfl⟩ := iv
      have hcl := cr.ok.len
      have hpn : c.pulls ≠ [] := ne_nil_of cr.ok.len
      refine r_cons (s_tup [5, 6, 7] (ok.push gh) (pgs_cons (pg_name (i := 5) ok.nd rfl (.inl rfl)) (pgs_cons (pg_name (i := 6) ok.nd rfl (.inl rfl)) (pgs_cons (pg_name (i := 7) ok.nd rfl (.inl rfl)) (pgs_nil)))) (q_v 2 ⟨_, rfl, ⟨_, rfl, rfl, ?_⟩⟩))
      have stop : shutsB ds c = false → k ν (.d (.tuple [eW lead, eW c])) := fun h => by
        have e := coreOf_stop (show ¬ shutsB ds c = true by rw [h]; exact Bool.false_ne_true)
        rw [hc] at e
        rw [← e]
        exact hk lead
      by_cases h2 : 2 ≤ c.passes.length
      · have hen : c.passes ≠ [] := fun q => by
          rw [q] at h2
          simp at h2
        obtain ⟨hpl, _⟩ := path_last cr.ok.path hen
        have hg := gate_dok hs hpl
        have ha := abs_of hg.two
        have c1 : decide (((c.passes.map eP).length : Int) < 2) = false := by
          rw [List.length_map]
          exact decide_eq_false (by omega)
        have e1 : shutsB ds c = (decide (c.passes.headD (0, 0) = inv (lastP c)) && decide ((c.pulls.getLastD 0 + c.pulls.headD 0) % ar ds (lastP c) = 0)) := by
          unfold shutsB
          rw [decide_eq_true h2, Bool.true_and]
        by_cases h3 : c.passes.headD (0, 0) = inv (lastP c)
        · have c2 : (!PyData.eqv (eP (c.passes.headD (0, 0))) (eP (inv (c.passes.getLastD (0, 0))))) = false := by
            rw [eqv_P, decide_eq_true (show c.passes.headD (0, 0) = inv (c.passes.getLastD (0, 0)) from h3)]
            rfl
          refine r_cons (s_ifF (qt_w (qw_orF (qt_cv (c_lt (q_len B.len (q_v 7 ⟨_, rfl, ⟨_, rfl, ⟨_, rfl, q_int ⟨_, rfl, ⟨_, rfl, ⟨c1, qw_or1 (qt_cv (c_neP (q_ix (q_v 7 ⟨_, rfl, ⟨_, rfl, q_int ⟨_, _, rfl, atI_headD hen (0, 0), ⟨_, rfl, Low.h, q_tup (qa_cons (q_ix (q_ix (q_v 7 ⟨_, rfl, ⟨_, rfl, q_neg (q_int ⟨_, rfl, ⟨_, _, rfl, atI_lastD hen (0, 0), ⟨_, rfl, q_int ⟨_, _, rfl, rfl, qa_cons (q_sub (q_int ⟨_, rfl, q_ix (q_ix (q_v 7 ⟨_, rfl, ⟨_, rfl, q_neg (q_int ⟨_, rfl, ⟨_, _, rfl, atI_lastD hen (0, 0), ⟨_, rfl, q_int ⟨_, _, rfl, rfl, ⟨_, rfl, qa_nil ⟨_, rfl, by simp, ⟨_, rfl, Low.h, ⟨_, rfl, ⟨c2, ?_⟩⟩⟩⟩⟩⟩⟩⟩⟩)⟩⟩))⟩))⟩⟩⟩⟩)⟩⟩))))⟩⟩⟩⟩)) (ok.push gh)))⟩⟩⟩⟩⟩⟩)))))))
          by_cases h4 : (c.pulls.getLastD 0 + c.pulls.headD 0) % ar ds (lastP c) = 0
          · have hsh : shutsB ds c = true := by
              rw [e1, decide_eq_true h3, decide_eq_true h4]
              rfl
            have c3 : (!decide ((c.pulls.getLastD 0 + c.pulls.headD 0).fmod (if (gate ds (c.passes.getLastD (0, 0))).2.2.2 < 0 then -(gate ds (c.passes.getLastD (0, 0))).2.2.2 else (gate ds (c.passes.getLastD (0, 0))).2.2.2) = 0)) = false := by
              rw [fmod_absE, decide_eq_true (show (c.pulls.getLastD 0 + c.pulls.headD 0) % (gate ds (c.passes.getLastD (0, 0))).2.2.2 = 0 from h4)]
              rfl
            obtain ⟨cr2, hl2⟩ := cr_next hz cr hsh
            obtain ⟨io1, io2, io3⟩ := inner_ok cr.ok hsh
            have fo := first_ok cr.ok hsh
            have fb := bk_ok fo
            have fb' : WOk ds ((firstP c).bk (inner ds c).room) c.room := fb
            have lo := led_ok fb' cr.ok rfl
            have ll := led_len ((firstP c).bk (inner ds c).room) c c.room
            have fbl : ((firstP c).bk (inner ds c).room).passes.length = 1 := rfl
            have hj := join_len hld.1 fo.len
            have e3 : QL.cutD (c.passes.map eP) none (some 1) = [c.passes.headD (0, 0)].map eP := by
              rw [← take_one hen]
              exact cut_take (n := 1)
            refine r_cons (s_ifF (qt_cv (c_neI (q_mod (q_toInt B.int (q_add (q_ix (q_v 6 ⟨_, rfl, ⟨_, rfl, q_neg (q_int ⟨_, rfl, ⟨_, _, rfl, atI_lastD hpn 0, ⟨_, rfl, q_ix (q_v 6 ⟨_, rfl, ⟨_, rfl, q_int ⟨_, _, rfl, atI_headD hpn 0, ⟨_, rfl, ⟨_, rfl, ⟨_, rfl, q_abs B.abs (q_ix (q_call G__law_gate (hr.mono (by decide)) (qa_cons (q_v 0 ⟨_, rfl, qa_cons (q_ix (q_v 7 ⟨_, rfl, ⟨_, rfl, q_neg (q_int ⟨_, rfl, ⟨_, _, rfl, atI_lastD hen (0, 0), qa_nil ⟨rfl, ⟨_, _, rfl, hpl, ⟨_, rfl, q_int ⟨_, _, rfl, rfl, ⟨_, rfl, ⟨_, rfl, ha.1, ⟨_, rfl, q_int ⟨_, rfl, ⟨_, rfl, ⟨c3, ?_⟩⟩⟩⟩⟩⟩⟩⟩⟩⟩⟩⟩)⟩⟩))⟩))))⟩⟩⟩⟩⟩⟩)⟩⟩⟩)⟩⟩))))))))
            refine r_cons (s_set 8 (ok.push gh) (q_tup (qa_cons (q_v 5 ⟨_, rfl, qa_cons (q_tup (qa_cons (q_ix (q_v 6 ⟨_, rfl, ⟨_, rfl, q_int ⟨_, _, rfl, atI_headD hpn 0, qa_cons (q_int (qa_nil ⟨_, rfl, by simp, qa_cons (q_sl01 (q_v 7 ⟨_, rfl, ⟨_, rfl, q_int ⟨_, rfl, qa_nil ⟨_, rfl, by simp, ⟨rfl, ?_⟩⟩⟩⟩⟩))⟩))⟩⟩⟩))))⟩))))
            rw [e3]
            refine r_cons (s_set 3 (ok.push gh) (q_call G__law_joined (hr.mono (by decide)) (qa_cons (q_v 3 ⟨_, rfl, qa_cons (q_v 8 ⟨_, rfl, qa_nil ⟨rfl, ⟨lead, firstP c, rfl, ⟨hld.1, fo.len⟩, ⟨by omega, by show 1 ≤ 200; omega⟩, ⟨rfl, ?_⟩⟩⟩⟩)⟩))))
            refine r_one (s_set 2 (ok.push gh) (q_call G__law_plain (hr.mono (by decide)) (qa_cons (q_v 0 ⟨_, rfl, qa_cons (q_call G__law_ak_led (hr.mono (by decide)) (qa_cons (q_v 0 ⟨_, rfl, qa_cons (q_call G__law_back (hr.mono (by decide)) (qa_cons (q_v 0 ⟨_, rfl, qa_cons (q_v 8 ⟨_, rfl, qa_nil ⟨rfl, ⟨ds, firstP c, (inner ds c).room, rfl, fo, by show 1 ≤ 200; omega, qa_cons (q_v 2 ⟨_, rfl, qa_nil ⟨rfl, ⟨_, _, _, c.room, rfl, fb', hcl, ⟨by omega, by omega⟩, qa_nil ⟨rfl, ⟨rooms, _, _, _, rfl, hs, lo, by omega, ⟨rfl, ?_⟩⟩⟩⟩⟩⟩)⟩⟩⟩)⟩)))⟩)))⟩))))
            rw [core_led hz cr.ok hsh]
            refine ⟨rfl, lead.join (firstP c), nfW ds (inner ds c), _, _, _, _, _, ⟨hj, ?_⟩, cr2, ?_, ?_, rfl⟩
            · show (lead.passes ++ [_]).length ≤ _
              rw [List.length_append]
              simp only [List.length_cons, List.length_nil]
              omega
            · rw [← hc, coreOf_next hz cr hsh]
            · omega
          · have hk2 := stop (by rw [e1, decide_eq_false h4, Bool.and_false])
            have c3 : (!decide ((c.pulls.getLastD 0 + c.pulls.headD 0).fmod (if (gate ds (c.passes.getLastD (0, 0))).2.2.2 < 0 then -(gate ds (c.passes.getLastD (0, 0))).2.2.2 else (gate ds (c.passes.getLastD (0, 0))).2.2.2) = 0)) = true := by
              rw [fmod_absE, decide_eq_false (show ¬ (c.pulls.getLastD 0 + c.pulls.headD 0) % (gate ds (c.passes.getLastD (0, 0))).2.2.2 = 0 from h4)]
              rfl
            refine r_cons (s_if (qt_cv (c_neI (q_mod (q_toInt B.int (q_add (q_ix (q_v 6 ⟨_, rfl, ⟨_, rfl, q_neg (q_int ⟨_, rfl, ⟨_, _, rfl, atI_lastD hpn 0, ⟨_, rfl, q_ix (q_v 6 ⟨_, rfl, ⟨_, rfl, q_int ⟨_, _, rfl, atI_headD hpn 0, ⟨_, rfl, ⟨_, rfl, ⟨_, rfl, q_abs B.abs (q_ix (q_call G__law_gate (hr.mono (by decide)) (qa_cons (q_v 0 ⟨_, rfl, qa_cons (q_ix (q_v 7 ⟨_, rfl, ⟨_, rfl, q_neg (q_int ⟨_, rfl, ⟨_, _, rfl, atI_lastD hen (0, 0), qa_nil ⟨rfl, ⟨_, _, rfl, hpl, ⟨_, rfl, q_int ⟨_, _, rfl, rfl, ⟨_, rfl, ⟨_, rfl, ha.1, ⟨_, rfl, q_int ⟨_, rfl, ⟨_, rfl, ⟨fun _ => ?_, fun hb => ?_⟩⟩⟩⟩⟩⟩⟩⟩⟩⟩⟩⟩)⟩⟩))⟩))))⟩⟩⟩⟩⟩⟩)⟩⟩⟩)⟩⟩))))))))
            · exact r_one (s_ret (q_tup (qa_cons (q_v 3 ⟨_, rfl, qa_cons (q_v 2 ⟨_, rfl, qa_nil ⟨_, rfl, by simp, ⟨rfl, hk2⟩⟩⟩)⟩))))
            · exact absurd (hb.symm.trans c3) (by decide)
        · have hk2 := stop (by rw [e1, decide_eq_false h3, Bool.false_and])
          have c2 : (!PyData.eqv (eP (c.passes.headD (0, 0))) (eP (inv (c.passes.getLastD (0, 0))))) = true := by
            rw [eqv_P, decide_eq_false (show ¬ c.passes.headD (0, 0) = inv (c.passes.getLastD (0, 0)) from h3)]
            rfl
          refine r_cons (s_if (qt_w (qw_orF (qt_cv (c_lt (q_len B.len (q_v 7 ⟨_, rfl, ⟨_, rfl, ⟨_, rfl, q_int ⟨_, rfl, ⟨_, rfl, ⟨c1, qw_or1 (qt_cv (c_neP (q_ix (q_v 7 ⟨_, rfl, ⟨_, rfl, q_int ⟨_, _, rfl, atI_headD hen (0, 0), ⟨_, rfl, Low.h, q_tup (qa_cons (q_ix (q_ix (q_v 7 ⟨_, rfl, ⟨_, rfl, q_neg (q_int ⟨_, rfl, ⟨_, _, rfl, atI_lastD hen (0, 0), ⟨_, rfl, q_int ⟨_, _, rfl, rfl, qa_cons (q_sub (q_int ⟨_, rfl, q_ix (q_ix (q_v 7 ⟨_, rfl, ⟨_, rfl, q_neg (q_int ⟨_, rfl, ⟨_, _, rfl, atI_lastD hen (0, 0), ⟨_, rfl, q_int ⟨_, _, rfl, rfl, ⟨_, rfl, qa_nil ⟨_, rfl, by simp, ⟨_, rfl, Low.h, ⟨_, rfl, ⟨fun _ => ?_, fun hb => ?_⟩⟩⟩⟩⟩⟩⟩⟩⟩)⟩⟩))⟩))⟩⟩⟩⟩)⟩⟩))))⟩⟩⟩⟩)) (ok.push gh)))⟩⟩⟩⟩⟩⟩)))))))
          · exact r_one (s_ret (q_tup (qa_cons (q_v 3 ⟨_, rfl, qa_cons (q_v 2 ⟨_, rfl, qa_nil ⟨_, rfl, by simp, ⟨rfl, hk2⟩⟩⟩)⟩))))
          · exact absurd (hb.symm.trans c2) (by decide)
      · have c1 : decide (((c.passes.map eP).length : Int) < 2) = true := by
          rw [List.length_map]
          exact decide_eq_true (by omega)
        have hk2 := stop (by
          unfold shutsB
          rw [decide_eq_false h2, Bool.false_and])
        refine r_cons (s_if (qt_w (qw_orT1 (qt_cv (c_lt (q_len B.len (q_v 7 ⟨_, rfl, ⟨_, rfl, ⟨_, rfl, q_int ⟨_, rfl, ⟨_, rfl, ⟨c1, fun _ => ?_, fun hb => (nomatch hb)⟩⟩⟩⟩⟩⟩)))))))
        exact r_one (s_ret (q_tup (qa_cons (q_v 3 ⟨_, rfl, qa_cons (q_v 2 ⟨_, rfl, qa_nil ⟨_, rfl, by simp, ⟨rfl, hk2⟩⟩⟩)⟩))))
    · obtain ⟨lead, c, x4, x5, x6, x7, x8, hld, cr, hc, hle, rfl⟩ := iv
      rw [List.length_map, List.length_range, Int.toNat_natCast, List.length_map] at hle
      have h0 : c.passes.length = 0 := by omega
      have e := coreOf_stop (w := c) (ds := ds) (fun q => by have := shuts_len q; omega)
      rw [hc] at e
      subst e
      exact r_one (s_ret (q_tup (qa_cons (q_v 3 ⟨_, rfl, qa_cons (q_v 2 ⟨_, rfl, qa_nil ⟨_, rfl, by simp, ⟨rfl, hk lead⟩⟩⟩)⟩))))
end
end PF


set_option maxHeartbeats 4000000
/-! D18 -/
namespace PF
open PySem PySem.Spec PyProof.Rows L2 QL PR
section
variable {P : Program} {w : World} {K : PySem.W.Frag} {mg : Str → Option Value} {base : Heap} {C : Addr}
/-! ### _law_ak_is_lead -/
abbrev s__law_ak_is_lead : Stmt := topS 111
theorem sc__law_ak_is_lead : FnScope ["_law_doors_here", "_law_rooms_here", "_law_one", "_law_other", "_law_thing"] ["_law_doors_here", "_law_rooms_here", "_law_one", "_law_other", "_law_thing"] (defScope s__law_ak_is_lead) := ⟨rfl, rfl, rfl, by decide +kernel, rfl, by decide +kernel, by decide +kernel⟩
def sp__law_ak_is_lead : Spc := fun ν as k => ∃ rooms ds one other found, as = [.d (eDs ds), .d (eI rooms), .d (eW one), .d (eW other), .d (eW found)] ∧ Hs rooms ds ∧ (WOk ds one one.room ∧ WOk ds other other.room) ∧ (0 ≤ one.room ∧ one.room < rooms) ∧ (one.passes.length ≤ 40 ∧ other.passes.length ≤ 40 ∧ found.passes.length ≤ 60) ∧ WOk ds found other.room ∧ found.room = one.room ∧ Eqv ds (found.wd ++ other.wd ++ winv found.wd) one.wd ∧ k ν (.d (.bool true))
theorem ok__law_ak_is_lead (A : At K mg "_law_ak_is_lead" s__law_ak_is_lead) (B : Bi mg) (T : Tx K mg C) (HF : HouseF K C) (G__law_ak_led : FnG P w K mg base C 4 "_law_ak_led" ["_law_doors_here", "_law_lead_here", "_law_walk_here"] sp__law_ak_led) (G__law_end : FnG P w K mg base C 2 "_law_end" ["_law_doors_here", "_law_walk_here"] sp__law_end) (G__law_is_walk : FnG P w K mg base C 2 "_law_is_walk" ["_law_doors_here", "_law_rooms_here", "_law_thing"] sp__law_is_walk) (G__law_plain : FnG P w K mg base C 2 "_law_plain" ["_law_doors_here", "_law_walk_here"] sp__law_plain) : FnG P w K mg base C 5 "_law_ak_is_lead" ["_law_doors_here", "_law_rooms_here", "_law_one", "_law_other", "_law_thing"] sp__law_ak_is_lead := by
  refine def_g (lev := 4) A sc__law_ak_is_lead (fun _ _ _ _ _ _ us hl => match us, hl with | [_, _, _, _, _], _ => rfl) (fun ν as k h => ?_) fun f cdv A outer s H E st hr W hW ok ν as k h => ?_
  · obtain ⟨rooms, ds, one, other, found, rfl, hs, hw, hrm, hl, hf, hfr, hev, hk⟩ := h
    rfl
  · obtain ⟨rooms, ds, one, other, found, rfl, hs, hw, hrm, hl, hf, hfr, hev, hk⟩ := h
    subst hW
    have hz := hs.nz
    have lo := led_ok hf hw.2 rfl
    have ll := led_len found other other.room
    have lp := lead_plain hz hw.1 hw.2 hf hfr hev
    have c0 : (!decide (found.room = one.room)) = false := by
      rw [decide_eq_true hfr]
      rfl
    refine r_cons (s_ifF (qt_w (qw_orF (qt_notF (qt_v (q_call G__law_is_walk (hr.mono (by decide)) (qa_cons (q_v 0 ⟨_, rfl, qa_cons (q_v 1 ⟨_, rfl, qa_cons (q_v 4 ⟨_, rfl, qa_nil ⟨rfl, ⟨_, _, _, _, rfl, hf, by rw [hfr]; exact hrm, by omega, ⟨_, rfl, ⟨rfl, qw_or1 (qt_cv (c_neI (q_ix (q_v 4 ⟨_, rfl, ⟨_, rfl, q_int ⟨_, _, rfl, rfl, ⟨_, rfl, q_ix (q_v 2 ⟨_, rfl, ⟨_, rfl, q_int ⟨_, _, rfl, rfl, ⟨_, rfl, ⟨_, rfl, ⟨c0, ?_⟩⟩⟩⟩⟩⟩)⟩⟩⟩⟩))))⟩⟩⟩⟩⟩)⟩)⟩))))))))
    refine r_cons (s_ifF (qt_cv (c_neI (q_call G__law_end (hr.mono (by decide)) (qa_cons (q_v 0 ⟨_, rfl, qa_cons (q_v 4 ⟨_, rfl, qa_nil ⟨rfl, ⟨_, _, _, rfl, hf, ⟨_, rfl, q_ix (q_v 3 ⟨_, rfl, ⟨_, rfl, q_int ⟨_, _, rfl, rfl, ⟨_, rfl, ⟨_, rfl, ⟨(by first | rfl | (simp; done) | assumption), ?_⟩⟩⟩⟩⟩⟩)⟩⟩⟩⟩)⟩))))))
    refine r_one (s_ret (q_cv (c_eqP (q_call G__law_plain (hr.mono (by decide)) (qa_cons (q_v 0 ⟨_, rfl, qa_cons (q_call G__law_ak_led (hr.mono (by decide)) (qa_cons (q_v 0 ⟨_, rfl, qa_cons (q_v 4 ⟨_, rfl, qa_cons (q_v 3 ⟨_, rfl, qa_nil ⟨rfl, ⟨_, _, _, other.room, rfl, hf, hw.2.len, by omega, qa_nil ⟨rfl, ⟨rooms, _, _, _, rfl, hs, lo, by omega, ⟨_, rfl, Low.h, q_call G__law_plain (hr.mono (by decide)) (qa_cons (q_v 0 ⟨_, rfl, qa_cons (q_v 2 ⟨_, rfl, qa_nil ⟨rfl, ⟨rooms, _, _, _, rfl, hs, hw.1, by omega, ⟨_, rfl, Low.h, ⟨rfl, ?_⟩⟩⟩⟩⟩)⟩))⟩⟩⟩⟩⟩⟩)⟩)⟩)))⟩))) ok)))
    rw [lp, (low_eq (n := 9) (m := 9) Low.h Low.h).mpr rfl]
    exact hk
/-! ### _law_ak_row -/
abbrev s__law_ak_row : Stmt := topS 108
theorem sc__law_ak_row : FnScope ["_law_doors_here", "_law_steps_here", "_law_fixed", "_law_slopes", "_law_first", "_law_wide", "_law_moved", "_law_more", "_law_spot", "_law_step", "_law_here", "_law_leaving", "_law_there", "_law_arriving", "_law_now", "_law_gain", "_law_some", "_law_apart_here", "_law_turn"] ["_law_doors_here", "_law_steps_here", "_law_fixed", "_law_slopes"] (defScope s__law_ak_row) := ⟨rfl, rfl, rfl, by decide +kernel, rfl, by decide +kernel, by decide +kernel⟩
def sp__law_ak_row : Spc := fun ν as k => ∃ rooms ds es fx r r', as = [.d (eDs ds), .d (ePs es), .b (fx.map PyData.int), .b ((sl es.length).map PyData.int)] ∧ Hs rooms ds ∧ Path ds r es r' ∧ fx.length = es.length + 1 ∧ (0 < es.length ∧ es.length ≤ 6) ∧ ((∀ x, ¬ chain ds es (lin fx (sl es.length) x) 0 = some 0) → k ν (.d .none)) ∧ (∀ x s, chain ds es (lin fx (sl es.length) x) 0 = some 0 → k ν (.d (.tuple [.int x, .int s])))
theorem ok__law_ak_row (A : At K mg "_law_ak_row" s__law_ak_row) (B : Bi mg) (T : Tx K mg C) (HF : HouseF K C) (G__law_gate : FnG P w K mg base C 1 "_law_gate" ["_law_doors_here", "_law_step"] sp__law_gate) : FnG P w K mg base C 2 "_law_ak_row" ["_law_doors_here", "_law_steps_here", "_law_fixed", "_law_slopes"] sp__law_ak_row := by
  refine def_g (lev := 1) A sc__law_ak_row (fun _ _ _ _ _ _ us hl => match us, hl with | [_, _, _, _], _ => rfl) (fun ν as k h => ?_) fun f cdv A outer s H E st hr W hW ok ν as k h => ?_
  · obtain ⟨rooms, ds, es, fx, r, r', rfl, hs, hp, hf, hl, hno, hyes⟩ := h
    rfl
  · obtain ⟨rooms, ds, es, fx, r, r', rfl, hs, hp, hf, hl, hno, hyes⟩ := h
    subst hW
    have hz := hs.nz
    have hsl : (sl es.length).length = es.length + 1 := sl_len hl.1
    obtain ⟨S, hS⟩ : ∃ S, S = sl es.length := ⟨_, rfl⟩
    rw [← hS] at hno hyes hsl
    have hbd : ∀ i, (S.getD i 0).natAbs ≤ 1 := fun i => by rw [hS]; exact sl_bd _ _
    rw [← hS]
    clear hS
    refine r_cons (s_tup [4, 5, 6, 7] ok (pgs_cons (pg_name (i := 4) ok.nd rfl (.inl rfl)) (pgs_cons (pg_name (i := 5) ok.nd rfl (.inl rfl)) (pgs_cons (pg_name (i := 6) ok.nd rfl (.inl rfl)) (pgs_cons (pg_name (i := 7) ok.nd rfl (.inl rfl)) (pgs_nil))))) (q_tup (qa_cons (q_int (qa_cons (q_int (qa_cons (q_int (qa_cons (q_int (qa_nil ⟨_, rfl, by simp, ⟨_, rfl, rfl, ?_⟩⟩)))))))))))
    refine r_cons (s_forN [8, 9] ok (pgs_cons (pg_name (i := 8) ok.nd rfl (.inl rfl)) (pgs_cons (pg_name (i := 9) ok.nd rfl (.inl rfl)) (pgs_nil))) (qi_enum B.enumerate (q_v 1 ⟨_, rfl, ⟨_, rfl, ⟨fun _ => trivial, fun i Γ => ∃ first step moved more x8 x9 x10 x11 x12 x13 x14 x15 x16 x17 x18, RowI ds es fx S i first step moved more ∧ Γ = [some (.d (eDs ds)), some (.d (ePs es)), some (.b (fx.map PyData.int)), some (.b (S.map PyData.int)), some (.d (eI first)), some (.d (eI step)), some (.d (eI moved)), some (.d (eI more)), x8, x9, x10, x11, x12, x13, x14, x15, x16, x17, x18], ⟨0, 1, 0, 0, _, _, _, _, _, _, _, _, _, _, _, row_start, rfl⟩, fun i d Γ hd iv => ?_, fun Γ iv => ?_⟩⟩⟩)))
    · obtain ⟨first, step, moved, more, x8, x9, x10, x11, x12, x13, x14, x15, x16, x17, x18, R, rfl⟩ := iv
      obtain ⟨e, he, rfl⟩ := enum_get hd
      refine ⟨_, rfl, rfl, fun gh => ?_⟩
      have hi : i < es.length := (List.getElem?_eq_some_iff.mp he).1
      have hi2 : i + 1 ≤ 6 := by omega
      have ee := getD_of (d := (0, 0)) he
      have hpe := hp.mem e (List.mem_of_getElem? he)
      have hg := gate_dok hs hpe
      have hgn := dok_nat hg
      have ha := abs_of hg.one
      have hln := lv_ne hz e
      have f1 := atI_getD (f := PyData.int) (xs := fx) (n := i) (by omega) 0
      have f2 := atI_getD (f := PyData.int) (xs := S) (n := i) (by omega) 0
      refine r_cons (s_tup [10, 11, 12, 13] (ok.push gh) (pgs_cons (pg_name (i := 10) ok.nd rfl (.inl rfl)) (pgs_cons (pg_name (i := 11) ok.nd rfl (.inr rfl)) (pgs_cons (pg_name (i := 12) ok.nd rfl (.inl rfl)) (pgs_cons (pg_name (i := 13) ok.nd rfl (.inl rfl)) (pgs_nil))))) (q_call G__law_gate (hr.mono (by decide)) (qa_cons (q_v 0 ⟨_, rfl, qa_cons (q_v 9 ⟨_, rfl, qa_nil ⟨rfl, ⟨_, _, rfl, hpe, ⟨_, rfl, rfl, ?_⟩⟩⟩⟩)⟩))))
      refine r_cons (s_tup [14, 15] (ok.push gh) (pgs_cons (pg_name (i := 14) ok.nd rfl (.inr rfl)) (pgs_cons (pg_name (i := 15) ok.nd rfl (.inr rfl)) (pgs_nil))) (q_tup (qa_cons (q_add (q_add (q_v 6 ⟨_, rfl, ⟨_, rfl, q_ixL (q_v 2 ⟨_, rfl, ⟨_, rfl, q_v 8 ⟨_, rfl, ⟨_, _, rfl, f1, ⟨_, rfl, ⟨_, rfl, q_mul (q_ixL (q_v 3 ⟨_, rfl, ⟨_, rfl, q_v 8 ⟨_, rfl, ⟨_, _, rfl, f2, ⟨_, rfl, q_v 4 ⟨_, rfl, ⟨_, rfl, sl_mul (hbd i), ⟨_, rfl, qa_cons (q_add (q_v 7 ⟨_, rfl, ⟨_, rfl, q_mul (q_ixL (q_v 3 ⟨_, rfl, ⟨_, rfl, q_v 8 ⟨_, rfl, ⟨_, _, rfl, f2, ⟨_, rfl, q_v 5 ⟨_, rfl, ⟨_, rfl, sl_mul (hbd i), ⟨_, rfl, qa_nil ⟨_, rfl, by simp, ⟨_, rfl, rfl, ?_⟩⟩⟩⟩⟩⟩⟩⟩⟩⟩))⟩⟩))⟩⟩⟩⟩⟩⟩⟩⟩))⟩⟩⟩⟩⟩⟩)⟩⟩))))))
      obtain ⟨now, en⟩ : ∃ now, now = moved + fx.getD i 0 + S.getD i 0 * first := ⟨_, rfl⟩
      obtain ⟨gain, eg⟩ : ∃ gain, gain = more + S.getD i 0 * step := ⟨_, rfl⟩
      show RR _ ν _ [some (.d (eDs ds)), some (.d (ePs es)), some (.b (fx.map PyData.int)), some (.b (S.map PyData.int)), some (.d (eI first)), some (.d (eI step)), some (.d (eI moved)), some (.d (eI more)), some (.d (.int (i : Int))), some (.d (eP e)), some (.d (.int (gate ds e).1)), some (.d (.int (gate ds e).2.1)), some (.d (.int (gate ds e).2.2.1)), some (.d (.int (gate ds e).2.2.2)), some (.d (.int (moved + fx.getD i 0 + S.getD i 0 * first))), some (.d (.int (more + S.getD i 0 * step))), x16, x17, x18] _
      rw [← en, ← eg]
      have hln2 : (gate ds e).2.1 ≠ 0 := hg.one.1
      refine r_cons (s_setLc 16 (ok.push gh) (qc1t 18 (tI fun n => decide ((now + gain * (n : Int)) % (gate ds e).2.1 = 0)) id (ok.push gh) (qi_range1 B.range (q_abs B.abs (q_v 11 ⟨_, rfl, ⟨_, rfl, ⟨_, rfl, by omega, ⟨trivial, ?_, fun i d hd => ?_, fun p => ⟨rfl, ?_⟩⟩⟩⟩⟩))) (hg := (fun _ _ _ _ _ => pg_name ok.nd rfl (.inl rfl)))))
      · rw [List.length_map, List.length_range]
        omega
      · obtain ⟨n, hn, rfl⟩ := getMap hd
        have hn6 := List.mem_range.mp (List.mem_of_getElem? hn)
        refine ⟨fun gh s H C cl fp => qt_cv (c_eqI (q_mod (q_toInt B.int (q_add (q_v 14 ⟨_, rfl, ⟨_, rfl, q_mul (q_v 15 ⟨_, rfl, ⟨_, rfl, q_v 18 ⟨_, rfl, ⟨_, rfl, smul' (by omega), ⟨_, rfl, ⟨_, rfl, ⟨_, rfl, q_abs B.abs (q_v 11 ⟨_, rfl, ⟨_, rfl, ⟨_, rfl, ha.1, ⟨_, rfl, q_int ⟨_, rfl, ⟨_, rfl, ⟨rfl, ?_⟩⟩⟩⟩⟩⟩⟩)⟩⟩⟩⟩⟩⟩⟩)⟩⟩))))), fun ht gh s H C cl fp => q_v 18 ⟨_, rfl, ⟨rfl, rfl⟩⟩⟩
        rw [fmod_absE]
        rfl
      have e0 : (if (gate ds e).2.1 < 0 then -(gate ds e).2.1 else (gate ds e).2.1).toNat = (gate ds e).2.1.natAbs := by
        rw [ifabs]
        exact Int.toNat_natCast _
      rw [e0, filt]
      obtain ⟨F, hF⟩ : ∃ F, F = (List.range (gate ds e).2.1.natAbs).filter fun (n : Nat) => decide ((now + gain * (n : Int)) % (gate ds e).2.1 = 0) := ⟨_, rfl⟩
      obtain ⟨hF0, hF1⟩ := some_set hln2 hF
      rw [← hF]
      cases hc : F with
      | nil =>
        have hn2 := row_none R hi hf hsl (fun k hk => by
          rw [← en, ← eg, ee] at hk
          exact hF0 hc k hk)
        exact r_cons (s_if (qt_cv (c_eqNl (q_v 16 ⟨_, rfl, ⟨_, rfl, rfl, ⟨_, rfl, ⟨fun _ => r_one (s_ret (q_non ⟨rfl, hno hn2⟩)), fun hb => (nomatch hb)⟩⟩⟩⟩) (ok.push gh))))
      | cons a rr =>
        obtain ⟨⟨z1, z2⟩, ⟨ha1, k0⟩, z3, z4⟩ := hF1 a rr hc
        have i0 : atI (eNs (a :: rr)) 0 = some (.int (a : Int)) := atI_nat (j := 0) rfl
        refine r_cons (s_ifF (qt_cv (c_eqNl (q_v 16 ⟨_, rfl, ⟨_, rfl, Lows.h, ⟨_, rfl, ⟨rfl, ?_⟩⟩⟩⟩) (ok.push gh))))
        refine r_mid (fun ν' Γ' => ν' = ν ∧ ∃ p x18, Γ' = [some (.d (eDs ds)), some (.d (ePs es)), some (.b (fx.map PyData.int)), some (.b (S.map PyData.int)), some (.d (eI first)), some (.d (eI step)), some (.d (eI moved)), some (.d (eI more)), some (.d (.int (i : Int))), some (.d (eP e)), some (.d (.int (gate ds e).1)), some (.d (.int (gate ds e).2.1)), some (.d (.int (gate ds e).2.2.1)), some (.d (.int (gate ds e).2.2.2)), some (.d (.int now)), some (.d (.int gain)), some (.o p (eNs (a :: rr))), some (.d (eI (apart (gate ds e).2.1 a rr))), x18]) ?_ ?_
        · cases rr with
          | nil =>
            refine s_set 17 (ok.push gh) (q_ife (qt_cv (c_gt (q_len B.len (q_v 16 ⟨_, rfl, ⟨_, rfl, ⟨_, rfl, q_int ⟨_, rfl, ⟨_, rfl, ⟨fun hb => (nomatch hb), fun hb => q_abs B.abs (q_v 11 ⟨_, rfl, ⟨_, rfl, ⟨rfl, ?_⟩⟩⟩)⟩⟩⟩⟩⟩⟩)))))
            refine ⟨rfl, p, x18, ?_⟩
            rw [ifabs]
            rfl
          | cons b rr =>
            have i1 : atI (eNs (a :: b :: rr)) 1 = some (.int (b : Int)) := atI_nat (j := 1) rfl
            have cb : decide ((1 : Int) < ((eNs (a :: b :: rr)).length : Int)) = true := by
              simp
              omega
            refine s_set 17 (ok.push gh) (q_ife (qt_cv (c_gt (q_len B.len (q_v 16 ⟨_, rfl, ⟨_, rfl, ⟨_, rfl, q_int ⟨_, rfl, ⟨_, rfl, ⟨fun hb => q_sub (q_ixL (q_v 16 ⟨_, rfl, ⟨_, rfl, q_int ⟨_, _, rfl, i1, ⟨_, rfl, q_ixL (q_v 16 ⟨_, rfl, ⟨_, rfl, q_int ⟨_, _, rfl, i0, ⟨_, rfl, ⟨rfl, rfl, _, x18, rfl⟩⟩⟩⟩⟩)⟩⟩⟩⟩)), fun hb => ?_⟩⟩⟩⟩⟩⟩)))))
            exact absurd (hb.symm.trans cb) (by decide)
        rintro ν' Γ' ⟨rfl, p, x18, rfl⟩
        obtain ⟨size, hsz⟩ : ∃ size : Int, size = apart (gate ds e).2.1 a rr := ⟨_, rfl⟩
        rw [← hsz] at z1 z2 z3 z4
        rw [← hsz]
        have hset := fun k => solve_set (now := now) (gain := gain) (l := lv ds e) (chosen := (a : Int)) (size := size) hln z1 k0 z3 z4 k
        have R2 := row_next hz (by rw [ee]; exact hgn.1) R hi hf hsl (hbd i) en eg z1 (by have := hgn.2; omega) (by rw [ee]; exact z2) (by rw [ee]; exact hset)
        rw [ee] at R2
        have c6 : -6 ≤ (a : Int) ∧ (a : Int) ≤ 6 := by
          have := hgn.2
          omega
        have s6 : -6 ≤ size ∧ size ≤ 6 := by
          have := hgn.2
          omega
        refine r_cons (s_par 6 7 (ok.push gh) (qa_cons (q_mul (q_fdiv (q_add (q_v 14 ⟨_, rfl, ⟨_, rfl, q_mul (q_v 15 ⟨_, rfl, ⟨_, rfl, q_ixL (q_v 16 ⟨_, rfl, ⟨_, rfl, q_int ⟨_, _, rfl, i0, ⟨_, rfl, smul' c6, ⟨_, rfl, ⟨_, rfl, q_v 11 ⟨_, rfl, ⟨_, rfl, sdiv hg.one.1 hg.one.2, ⟨_, rfl, q_v 13 ⟨_, rfl, ⟨_, rfl, smul' hg.two.2, qa_cons (q_mul (q_fdiv (q_mul (q_v 15 ⟨_, rfl, ⟨_, rfl, q_v 17 ⟨_, rfl, ⟨_, rfl, smul' s6, ⟨_, rfl, q_v 11 ⟨_, rfl, ⟨_, rfl, sdiv hg.one.1 hg.one.2, ⟨_, rfl, q_v 13 ⟨_, rfl, ⟨_, rfl, smul' hg.two.2, qa_nil ⟨_, _, rfl, rfl, rfl, ?_⟩⟩⟩⟩⟩⟩⟩⟩⟩⟩⟩))))⟩⟩⟩⟩⟩⟩⟩⟩⟩⟩⟩)⟩⟩)⟩⟩))))))
        refine r_one (s_par 4 5 (ok.push gh) (qa_cons (q_add (q_v 4 ⟨_, rfl, ⟨_, rfl, q_mul (q_v 5 ⟨_, rfl, ⟨_, rfl, q_ixL (q_v 16 ⟨_, rfl, ⟨_, rfl, q_int ⟨_, _, rfl, i0, ⟨_, rfl, smul' c6, ⟨_, rfl, qa_cons (q_mul (q_v 5 ⟨_, rfl, ⟨_, rfl, q_v 17 ⟨_, rfl, ⟨_, rfl, smul' s6, qa_nil ⟨_, _, rfl, rfl, rfl, ?_⟩⟩⟩⟩⟩))⟩⟩⟩⟩⟩)⟩⟩)⟩⟩))))
        rw [fdiv_ex hg.one.1 k0, fdiv_ex hg.one.1 z3]
        exact ⟨rfl, _, _, _, _, _, _, _, _, _, _, _, _, _, _, _, R2, rfl⟩
    · obtain ⟨first, step, moved, more, x8, x9, x10, x11, x12, x13, x14, x15, x16, x17, x18, R, rfl⟩ := iv
      rw [enumD_length, List.length_map] at R
      have hend := row_last R hf hsl
      have f1 := atI_lastN hf
      have f2 := atI_lastN hsl
      have hst := R.pos
      have hbb := R.bd
      have h12 := p12 hl.2
      refine r_cons (s_tup [14, 15] ok (pgs_cons (pg_name (i := 14) ok.nd rfl (.inr rfl)) (pgs_cons (pg_name (i := 15) ok.nd rfl (.inr rfl)) (pgs_nil))) (q_tup (qa_cons (q_add (q_add (q_v 6 ⟨_, rfl, ⟨_, rfl, q_ixL (q_v 2 ⟨_, rfl, ⟨_, rfl, q_neg (q_int ⟨_, rfl, ⟨_, _, rfl, f1, ⟨_, rfl, ⟨_, rfl, q_mul (q_ixL (q_v 3 ⟨_, rfl, ⟨_, rfl, q_neg (q_int ⟨_, rfl, ⟨_, _, rfl, f2, ⟨_, rfl, q_v 4 ⟨_, rfl, ⟨_, rfl, sl_mul (hbd _), ⟨_, rfl, qa_cons (q_add (q_v 7 ⟨_, rfl, ⟨_, rfl, q_mul (q_ixL (q_v 3 ⟨_, rfl, ⟨_, rfl, q_neg (q_int ⟨_, rfl, ⟨_, _, rfl, f2, ⟨_, rfl, q_v 5 ⟨_, rfl, ⟨_, rfl, sl_mul (hbd _), ⟨_, rfl, qa_nil ⟨_, rfl, by simp, ⟨_, rfl, rfl, ?_⟩⟩⟩⟩⟩⟩⟩⟩)⟩⟩))⟩⟩))⟩⟩⟩⟩⟩⟩)⟩⟩))⟩⟩⟩⟩)⟩⟩)⟩⟩))))))
      have hgb : (more + S.getD es.length 0 * step).natAbs ≤ 2985984 := by
        have e1 := Int.natAbs_add_le more (S.getD es.length 0 * step)
        rw [Int.natAbs_mul] at e1
        have e2 : (S.getD es.length 0).natAbs * step.natAbs ≤ 1 * step.natAbs := Nat.mul_le_mul_right _ (hbd _)
        omega
      obtain ⟨now, en⟩ : ∃ now, now = moved + fx.getD es.length 0 + S.getD es.length 0 * first := ⟨_, rfl⟩
      obtain ⟨gain, eg⟩ : ∃ gain, gain = more + S.getD es.length 0 * step := ⟨_, rfl⟩
      rw [← eg] at hgb
      rw [← en, ← eg]
      simp only [← en, ← eg] at hend
      by_cases h0 : gain = 0
      · refine r_cons (s_if (qt_cv (c_eqI (q_v 15 ⟨_, rfl, ⟨_, rfl, q_int ⟨_, rfl, ⟨_, rfl, ⟨fun hb => ?_, fun hb => absurd h0 (of_decide_eq_false hb)⟩⟩⟩⟩⟩))))
        refine r_one (s_ret (q_ife (qt_cv (c_eqI (q_v 14 ⟨_, rfl, ⟨_, rfl, q_int ⟨_, rfl, ⟨_, rfl, ⟨fun hb => q_tup (qa_cons (q_mod (q_toInt B.int (q_v 4 ⟨_, rfl, ⟨_, rfl, ⟨_, rfl, q_v 5 ⟨_, rfl, ⟨_, rfl, by omega, qa_cons (q_v 5 ⟨_, rfl, qa_nil ⟨_, rfl, by simp, ⟨rfl, ?_⟩⟩⟩)⟩⟩⟩⟩⟩)))), fun hb => q_non ⟨rfl, ?_⟩⟩⟩⟩⟩⟩)))))
        · have hnow : now = 0 := of_decide_eq_true hb
          refine hyes _ _ ((hend _).mpr ⟨-(first.fdiv step), ?_, ?_⟩)
          · have := Int.mul_fdiv_add_fmod first step
            rw [Int.mul_neg]
            omega
          · rw [hnow, h0, Int.zero_mul]
            rfl
        · have hnow : ¬ now = 0 := of_decide_eq_false hb
          refine hno fun x hx => ?_
          obtain ⟨k, _, h2⟩ := (hend x).mp hx
          rw [h0, Int.zero_mul] at h2
          omega
      · refine r_cons (s_ifF (qt_cv (c_eqI (q_v 15 ⟨_, rfl, ⟨_, rfl, q_int ⟨_, rfl, ⟨_, rfl, ⟨decide_eq_false h0, ?_⟩⟩⟩⟩⟩))))
        have hga : (if gain < 0 then -gain else gain) ≠ 0 := by split <;> omega
        have hcd : CDivN now gain := ⟨h0, by omega⟩
        have hcm : CMul (now.fdiv gain) step := .inr (by omega)
        refine r_one (s_ret (q_ife (qt_cv (c_eqI (q_mod (q_toInt B.int (q_v 14 ⟨_, rfl, ⟨_, rfl, ⟨_, rfl, q_abs B.abs (q_v 15 ⟨_, rfl, ⟨_, rfl, ⟨_, rfl, hga, ⟨_, rfl, q_int ⟨_, rfl, ⟨_, rfl, ⟨fun hb => q_tup (qa_cons (q_sub (q_v 4 ⟨_, rfl, ⟨_, rfl, q_mul (q_fdiv (q_v 14 ⟨_, rfl, ⟨_, rfl, q_v 15 ⟨_, rfl, ⟨_, rfl, hcd, ⟨_, rfl, q_v 5 ⟨_, rfl, ⟨_, rfl, hcm, ⟨_, rfl, qa_cons (q_int (qa_nil ⟨_, rfl, by simp, ⟨rfl, ?_⟩⟩))⟩⟩⟩⟩⟩⟩⟩⟩))⟩⟩))), fun hb => q_non ⟨rfl, ?_⟩⟩⟩⟩⟩⟩⟩⟩)⟩⟩⟩)))))))
        · have hnow0 := of_decide_eq_true hb
          rw [fmod_absE] at hnow0
          have hnow : now.fmod gain = 0 := Int.fmod_eq_zero_of_dvd (Int.dvd_of_emod_eq_zero hnow0)
          refine hyes _ _ ((hend _).mpr ⟨-(now.fdiv gain), ?_, ?_⟩)
          · rw [Int.mul_neg, Int.mul_comm step]
            omega
          · have := Int.mul_fdiv_add_fmod now gain
            rw [Int.mul_neg]
            omega
        · have hnow0 := of_decide_eq_false hb
          rw [fmod_absE] at hnow0
          have hnow : ¬ now.fmod gain = 0 := fun q => hnow0 (Int.emod_eq_zero_of_dvd (Int.dvd_of_fmod_eq_zero q))
          refine hno fun x hx => ?_
          obtain ⟨k, _, h2⟩ := (hend x).mp hx
          refine hnow (Int.fmod_eq_zero_of_dvd ⟨-k, ?_⟩)
          rw [Int.mul_neg]
          omega
end
end PF


set_option maxHeartbeats 4000000
/-! D19 -/
namespace PF
open PySem PySem.Spec PyProof.Rows L2 QL PR
theorem sl_set (m : Nat) : (sl (m + 1)).map PyData.int = ((List.replicate (m + 1 + 1) (datD (.d (.int 0)))).set 0 (.int (0 + 1))).set (m + 1) (.int (0 - 1)) := by
  unfold sl
  apply List.ext_getElem?
  intro i
  rw [List.getElem?_set, List.getElem?_set]
  cases i with
  | zero => simp
  | succ i =>
    simp only [List.map_cons, List.getElem?_cons_succ, List.map_append, List.map_replicate, List.length_set, List.length_replicate]
    by_cases h : i = m
    · subst h
      simp
    · rw [if_neg (by omega), if_neg (by omega), List.getElem?_replicate]
      by_cases h2 : i < m
      · rw [List.getElem?_append_left (by simpa using h2), List.getElem?_replicate]
        rw [if_pos (by omega), if_pos (by omega)]
        rfl
      · rw [if_neg (by omega), List.getElem?_eq_none]
        simp
        omega
theorem zeros {α : Type} {xs : List α} {acc : List D} (h : Paired (fun _ y => y = PyData.int 0) xs acc) : acc = List.replicate xs.length (.int 0) := by
  induction h with
  | nil => rfl
  | cons q r ih =>
    rw [q, ih]
    rfl
section
variable {P : Program} {w : World} {K : PySem.W.Frag} {mg : Str → Option Value} {base : Heap} {C : Addr}
/-! ### _law_ak_rows -/
abbrev s__law_ak_rows : Stmt := topS 109
theorem sc__law_ak_rows : FnScope ["_law_doors_here", "_law_one", "_law_other", "_law_left", "_law_right", "_law_fixed", "_law_slopes", "_law_row_here", "_law_own", "_law_theirs", "_law_item"] ["_law_doors_here", "_law_one", "_law_other"] (defScope s__law_ak_rows) := ⟨rfl, rfl, rfl, by decide +kernel, rfl, by decide +kernel, by decide +kernel⟩
def sp__law_ak_rows : Spc := fun ν as k => ∃ rooms ds u v r r2, as = [.d (eDs ds), .d (eW u), .d (eW v)] ∧ Hs rooms ds ∧ (WOk ds u r ∧ WOk ds v r2) ∧ (u.passes.length ≤ 100 ∧ v.passes.length ≤ 100) ∧ (nfW ds u = u ∧ nfW ds v = v) ∧ (0 < v.passes.length ∧ v.passes.length ≤ 6) ∧ ((∀ x, ¬ Joins ds u v x) → ∀ p, k ν (.f p [])) ∧ (∀ x s, Joins ds u v x → ∀ p, k ν (.f p [.tuple [.int x, .int s]]))
theorem ok__law_ak_rows (A : At K mg "_law_ak_rows" s__law_ak_rows) (B : Bi mg) (T : Tx K mg C) (HF : HouseF K C) (G__law_ak_row : FnG P w K mg base C 2 "_law_ak_row" ["_law_doors_here", "_law_steps_here", "_law_fixed", "_law_slopes"] sp__law_ak_row) (G__law_plain : FnG P w K mg base C 2 "_law_plain" ["_law_doors_here", "_law_walk_here"] sp__law_plain) : FnG P w K mg base C 3 "_law_ak_rows" ["_law_doors_here", "_law_one", "_law_other"] sp__law_ak_rows := by
  refine def_g (lev := 2) A sc__law_ak_rows (fun _ _ _ _ _ _ us hl => match us, hl with | [_, _, _], _ => rfl) (fun ν as k h => ?_) fun f cdv A outer s H E st hr W hW ok ν as k h => ?_
  · obtain ⟨rooms, ds, u, v, r, r2, rfl, hs, hw, hwl, hnf, hl, hno, hyes⟩ := h
    rfl
  · obtain ⟨rooms, ds, u, v, r, r2, rfl, hs, hw, hwl, hnf, hl, hno, hyes⟩ := h
    subst hW
    refine r_cons (s_par 3 4 ok (qa_cons (q_call G__law_plain (hr.mono (by decide)) (qa_cons (q_v 0 ⟨_, rfl, qa_cons (q_v 1 ⟨_, rfl, qa_nil ⟨rfl, ⟨rooms, _, _, _, rfl, hs, hw.1, by omega, qa_cons (q_call G__law_plain (hr.mono (by decide)) (qa_cons (q_v 0 ⟨_, rfl, qa_cons (q_v 2 ⟨_, rfl, qa_nil ⟨rfl, ⟨rooms, _, _, _, rfl, hs, hw.2, by omega, qa_nil ⟨_, _, rfl, rfl, rfl, ?_⟩⟩⟩⟩)⟩)))⟩⟩⟩)⟩)))))
    rw [hnf.1, hnf.2]
    by_cases hh : u.room = v.room ∧ u.passes = v.passes
    · obtain ⟨h1, h2⟩ := hh
      have c1 : (!PyData.eqv (ePs u.passes) (ePs v.passes)) = false := by
        rw [eqv_Ps, decide_eq_true h2]
        rfl
      have c0 : (!decide (u.room = v.room)) = false := by
        rw [decide_eq_true h1]
        rfl
      have hul := hw.1.len
      have hvl := hw.2.len
      have hpl : u.pulls.length = v.pulls.length := by rw [hul, hvl, h2]
      refine r_cons (s_ifF (qt_w (qw_orF (qt_cv (c_neI (q_ix (q_v 3 ⟨_, rfl, ⟨_, rfl, q_int ⟨_, _, rfl, rfl, ⟨_, rfl, q_ix (q_v 4 ⟨_, rfl, ⟨_, rfl, q_int ⟨_, _, rfl, rfl, ⟨_, rfl, ⟨_, rfl, ⟨c0, qw_or1 (qt_cv (c_neP (q_ix (q_v 3 ⟨_, rfl, ⟨_, rfl, q_int ⟨_, _, rfl, rfl, ⟨_, rfl, Low.h, q_ix (q_v 4 ⟨_, rfl, ⟨_, rfl, q_int ⟨_, _, rfl, rfl, ⟨_, rfl, Low.h, ⟨_, rfl, ⟨c1, ?_⟩⟩⟩⟩⟩⟩)⟩⟩⟩⟩)) ok))⟩⟩⟩⟩⟩⟩)⟩⟩⟩⟩)))))))
      refine r_cons (s_setLc 5 ok (qcN [8, 9] (own := [("_law_own", 8), ("_law_theirs", 9)]) (fun d y => ∃ x z : Int, d = .tuple [.int x, .int z] ∧ y = .int (z - x)) ok rfl (qi_zip B.zip (q_ix (q_v 3 ⟨_, rfl, ⟨_, rfl, q_int ⟨_, _, rfl, rfl, ⟨_, rfl, q_ix (q_v 4 ⟨_, rfl, ⟨_, rfl, q_int ⟨_, _, rfl, rfl, ⟨_, rfl, ⟨trivial, ?_, fun i d hd => ?_, fun acc hacc p => ⟨rfl, ?_⟩⟩⟩⟩⟩⟩)⟩⟩⟩⟩))) (hg := (fun _ _ _ _ _ => pgs_cons (pg_name (i := 8) ok.nd rfl (.inl rfl)) (pgs_cons (pg_name (i := 9) ok.nd rfl (.inl rfl)) (pgs_nil))))))
      · refine Nat.le_trans zip_len ?_
        rw [List.length_map]
        omega
      · obtain ⟨x, z, rfl⟩ := zip_get hd
        exact ⟨_, rfl, rfl, fun gh s H C cl fp => q_sub (q_v 9 ⟨_, rfl, ⟨_, rfl, q_v 8 ⟨_, rfl, ⟨_, rfl, ⟨rfl, _, rfl, _, _, rfl, rfl⟩⟩⟩⟩⟩)⟩
      have hacc := zip_diff hacc
      subst hacc
      have hdl : (diff v.pulls u.pulls).length = u.passes.length + 1 := by rw [diff_len hpl.symm, hul]
      obtain ⟨m, hm⟩ : ∃ m, u.passes.length = m + 1 := ⟨u.passes.length - 1, by rw [h2]; omega⟩
      refine r_cons (s_setLc 6 ok (qc1 10 (fun _ y => y = .int 0) ok (qi_own 5 rfl ⟨rfl, ?_, fun i d hd gh s H C cl fp => q_int ⟨rfl, _, rfl, rfl⟩, fun acc hacc p2 => ⟨rfl, ?_⟩⟩) (hg := (fun _ _ _ _ _ => pg_name ok.nd rfl (.inl rfl)))))
      · rw [List.length_map, hdl]
        omega
      have hacc := zeros hacc
      rw [List.length_map, hdl, hm] at hacc
      subst hacc
      refine r_cons (s_setItem 6 ok rfl (q_add (q_ixL (q_v 6 ⟨_, rfl, ⟨_, rfl, q_int ⟨_, _, rfl, atI_nat (j := 0) rfl, ⟨_, rfl, q_int ⟨_, rfl, ⟨_, rfl, q_int ⟨_, 0, rfl, ixN_lt (n := 0) (by simp), ?_⟩⟩⟩⟩⟩⟩⟩))))
      have e1 : atI ((List.replicate (m + 1 + 1) (PyData.int 0)).set 0 (.int (0 + 1))) (-1) = some (.int 0) := by
        unfold atI
        rw [ixN_neg1 (by simp)]
        simp
      have e2 : ixN ((List.replicate (m + 1 + 1) (PyData.int 0)).set 0 (.int (0 + 1))).length (-1) = some (m + 1) := by
        rw [ixN_neg1 (by simp)]
        simp
      refine r_cons (s_setItem 6 ok rfl (q_sub (q_ixL (q_v 6 ⟨_, rfl, ⟨_, rfl, q_neg (q_int ⟨_, rfl, ⟨_, _, rfl, e1, ⟨_, rfl, q_int ⟨_, rfl, ⟨_, rfl, q_neg (q_int ⟨_, rfl, ⟨_, _, rfl, e2, ?_⟩⟩)⟩⟩⟩⟩⟩)⟩⟩))))
      refine r_cons (s_set 7 ok (q_call G__law_ak_row (hr.mono (by decide)) (qa_cons (q_v 0 ⟨_, rfl, qa_cons (q_ix (q_v 3 ⟨_, rfl, ⟨_, rfl, q_int ⟨_, _, rfl, rfl, qa_cons (q_v 5 ⟨_, rfl, qa_cons (q_v 6 ⟨_, rfl, qa_nil ⟨rfl, ⟨rooms, ds, u.passes, diff v.pulls u.pulls, u.room, r, ?_, hs, hw.1.path, hdl, ⟨?_, ?_⟩, fun hx => ⟨rfl, ?_⟩, fun x s hx => ⟨rfl, ?_⟩⟩⟩⟩)⟩)⟩⟩⟩))⟩))))
      · rw [hm, sl_set]
        rfl
      · rw [h2]
        exact hl.1
      · rw [h2]
        exact hl.2
      · exact r_one (s_ret (q_ife (qt_cv (c_isN (q_v 7 ⟨_, rfl, ⟨_, rfl, rfl, ⟨_, rfl, ⟨fun hb => q_lst (qa_nil ⟨_, rfl, by simp, fun p => ⟨rfl, hno (fun x j => hx x j.chain) p⟩⟩), fun hb => (nomatch hb)⟩⟩⟩⟩)))))
      · exact r_one (s_ret (q_ife (qt_cv (c_isN (q_v 7 ⟨_, rfl, ⟨_, rfl, rfl, ⟨_, rfl, ⟨fun hb => (nomatch hb), fun hb => q_lst (qa_cons (q_v 7 ⟨_, rfl, qa_nil ⟨_, rfl, by simp, fun p => ⟨rfl, hyes x s ⟨h1, h2, hx⟩ p⟩⟩⟩))⟩⟩⟩⟩)))))
    · have hk := hno fun x j => hh ⟨j.room, j.passes⟩
      by_cases h1 : u.room = v.room
      · have c1 : (!PyData.eqv (ePs u.passes) (ePs v.passes)) = true := by
          rw [eqv_Ps, decide_eq_false (fun q => hh ⟨h1, q⟩)]
          rfl
        have c0 : (!decide (u.room = v.room)) = false := by
          rw [decide_eq_true h1]
          rfl
        exact r_cons (s_if (qt_w (qw_orF (qt_cv (c_neI (q_ix (q_v 3 ⟨_, rfl, ⟨_, rfl, q_int ⟨_, _, rfl, rfl, ⟨_, rfl, q_ix (q_v 4 ⟨_, rfl, ⟨_, rfl, q_int ⟨_, _, rfl, rfl, ⟨_, rfl, ⟨_, rfl, ⟨c0, qw_or1 (qt_cv (c_neP (q_ix (q_v 3 ⟨_, rfl, ⟨_, rfl, q_int ⟨_, _, rfl, rfl, ⟨_, rfl, Low.h, q_ix (q_v 4 ⟨_, rfl, ⟨_, rfl, q_int ⟨_, _, rfl, rfl, ⟨_, rfl, Low.h, ⟨_, rfl, ⟨fun _ => r_one (s_ret (q_lst (qa_nil ⟨_, rfl, by simp, fun p => ⟨rfl, hk p⟩⟩))), fun hb => absurd (hb.symm.trans c1) (by decide)⟩⟩⟩⟩⟩⟩)⟩⟩⟩⟩)) ok))⟩⟩⟩⟩⟩⟩)⟩⟩⟩⟩)))))))
      · have c0 : (!decide (u.room = v.room)) = true := by
          rw [decide_eq_false h1]
          rfl
        exact r_cons (s_if (qt_w (qw_orT1 (qt_cv (c_neI (q_ix (q_v 3 ⟨_, rfl, ⟨_, rfl, q_int ⟨_, _, rfl, rfl, ⟨_, rfl, q_ix (q_v 4 ⟨_, rfl, ⟨_, rfl, q_int ⟨_, _, rfl, rfl, ⟨_, rfl, ⟨_, rfl, ⟨c0, fun _ => r_one (s_ret (q_lst (qa_nil ⟨_, rfl, by simp, fun p => ⟨rfl, hk p⟩⟩))), fun hb => (nomatch hb)⟩⟩⟩⟩⟩⟩)⟩⟩⟩⟩)))))))
/-! ### _law_ak_meet -/
abbrev s__law_ak_meet : Stmt := topS 110
theorem sc__law_ak_meet : FnScope ["_law_doors_here", "_law_core_here", "_law_mate", "_law_turned_here"] ["_law_doors_here", "_law_core_here", "_law_mate"] (defScope s__law_ak_meet) := ⟨rfl, rfl, rfl, by decide +kernel, rfl, by decide +kernel, by decide +kernel⟩
def sp__law_ak_meet : Spc := fun ν as k => ∃ rooms ds c m, as = [.d (eDs ds), .d (eW c), .d (eW m)] ∧ Hs rooms ds ∧ (Cr ds c ∧ Cr ds m) ∧ c.passes.length = m.passes.length ∧ (0 < c.passes.length ∧ c.passes.length ≤ 6) ∧ (Due ds c m → k ν (.d (.bool true))) ∧ (¬ Due ds c m → k ν (.d (.bool false)))
theorem ok__law_ak_meet (A : At K mg "_law_ak_meet" s__law_ak_meet) (B : Bi mg) (T : Tx K mg C) (HF : HouseF K C) (G__law_ak_rows : FnG P w K mg base C 3 "_law_ak_rows" ["_law_doors_here", "_law_one", "_law_other"] sp__law_ak_rows) (G__law_ak_turns : FnG P w K mg base C 5 "_law_ak_turns" ["_law_doors_here", "_law_core_here"] sp__law_ak_turns) : FnG P w K mg base C 6 "_law_ak_meet" ["_law_doors_here", "_law_core_here", "_law_mate"] sp__law_ak_meet := by
  refine def_g (lev := 5) A sc__law_ak_meet (fun _ _ _ _ _ _ us hl => match us, hl with | [_, _, _], _ => rfl) (fun ν as k h => ?_) fun f cdv A outer s H E st hr W hW ok ν as k h => ?_
  · obtain ⟨rooms, ds, c, m, rfl, hs, hcr, hcm, hl, hyes, hno⟩ := h
    rfl
  · obtain ⟨rooms, ds, c, m, rfl, hs, hcr, hcm, hl, hyes, hno⟩ := h
    subst hW
    have hz := hs.nz
    obtain ⟨hc, hm⟩ := hcr
    refine r_cons (s_for 3 ok (qi_lst (q_call G__law_ak_turns (hr.mono (by decide)) (qa_cons (q_v 0 ⟨_, rfl, qa_cons (q_v 1 ⟨_, rfl, qa_nil ⟨rfl, ⟨_, _, _, rfl, hs, hc.ok, by omega, fun p => ⟨_, rfl, rfl, ⟨fun _ => trivial, fun i Γ => ∃ x3, (∀ j, j < i → ∀ x, ¬ Joins ds (nfW ds (turnW ds c j)) m x) ∧ Γ = [some (.d (eDs ds)), some (.d (eW c)), some (.d (eW m)), x3], ⟨_, fun j hj => absurd hj (by omega), rfl⟩, fun i d Γ hd iv gh => ?_, fun Γ iv => ?_⟩⟩⟩⟩⟩)⟩)))))
    · obtain ⟨x3, hj, rfl⟩ := iv
      obtain ⟨i', hi, rfl⟩ := getMap hd
      have hii : i' = i ∧ i < c.passes.length := by
        obtain ⟨h1, h2⟩ := List.getElem?_eq_some_iff.mp hi
        rw [List.length_range] at h1
        rw [List.getElem_range] at h2
        exact ⟨h2.symm, h1⟩
      obtain ⟨rfl, hi2⟩ := hii
      have t1 := turn_ok hz hc.ok (m := i') (by omega)
      have t2 := turn_np hc.ok (m := i') (by omega) hz
      have t3 := nfW_ok hz t1
      have t4 := nfW_len (ds := ds) t1.len
      have n1 := nfW_nfW hz t1.ok
      have n2 := IsPl.nfW hz hm.pl
      by_cases h1 : (nfW ds (turnW ds c i')).room = m.room
      · refine r_one (s_if (qt_w (qw_andT (qt_cv (c_eqI (q_ix (q_v 3 ⟨_, rfl, ⟨_, rfl, q_int ⟨_, _, rfl, rfl, ⟨_, rfl, q_ix (q_v 2 ⟨_, rfl, ⟨_, rfl, q_int ⟨_, _, rfl, rfl, ⟨_, rfl, ⟨_, rfl, ⟨decide_eq_true h1, qw_and1 (qt_cv (c_neNl (q_call G__law_ak_rows (hr.mono (by decide)) (qa_cons (q_v 0 ⟨_, rfl, qa_cons (q_v 3 ⟨_, rfl, qa_cons (q_v 2 ⟨_, rfl, qa_nil ⟨rfl, ⟨rooms, _, _, _, _, _, rfl, hs, ⟨t3, hm.ok⟩, ⟨by omega, by omega⟩, ⟨n1, n2⟩, by omega, fun hx p => ⟨_, rfl, Lows.h, ⟨_, rfl, ⟨fun hb => (nomatch hb), fun hb => ?_⟩⟩⟩, fun x s hx p => ⟨_, rfl, Lows.h, ⟨_, rfl, ⟨fun hb => ?_, fun hb => (nomatch hb)⟩⟩⟩⟩⟩⟩)⟩)⟩))) (ok.push gh)))⟩⟩⟩⟩⟩⟩)⟩⟩⟩⟩)))))))
        · refine r_nil ⟨rfl, _, fun j hj2 => ?_, rfl⟩
          by_cases e : j = i'
          · rw [e]
            exact hx
          · exact hj j (by omega)
        · exact r_one (s_ret (q_bl ⟨rfl, hyes ⟨i', hi2, x, hx⟩⟩))
      · refine r_one (s_if (qt_w (qw_andF1 (qt_cv (c_eqI (q_ix (q_v 3 ⟨_, rfl, ⟨_, rfl, q_int ⟨_, _, rfl, rfl, ⟨_, rfl, q_ix (q_v 2 ⟨_, rfl, ⟨_, rfl, q_int ⟨_, _, rfl, rfl, ⟨_, rfl, ⟨_, rfl, ⟨decide_eq_false h1, ⟨fun hb => (nomatch hb), fun hb => ?_⟩⟩⟩⟩⟩⟩⟩)⟩⟩⟩⟩)))))))
        refine r_nil ⟨rfl, _, fun j hj2 => ?_, rfl⟩
        by_cases e : j = i'
        · rw [e]
          exact fun x hx => h1 hx.room
        · exact hj j (by omega)
    · obtain ⟨x3, hj, rfl⟩ := iv
      rw [List.length_map, List.length_range] at hj
      exact r_one (s_ret (q_bl ⟨rfl, hno fun ⟨n, hn, x, hx⟩ => hj n hn x hx⟩))
end
end PF


set_option maxHeartbeats 4000000
/-! D20 -/
namespace PF
open PySem PySem.Spec PyProof.Rows L2 QL PR
section
variable {P : Program} {w : World} {K : PySem.W.Frag} {mg : Str → Option Value} {base : Heap} {C : Addr}
/-! ### _law_ak_size -/
abbrev s__law_ak_size : Stmt := topS 102
theorem sc__law_ak_size : FnScope ["_law_state", "_law_size_here"] ["_law_state"] (defScope s__law_ak_size) := ⟨rfl, rfl, rfl, by decide +kernel, rfl, by decide +kernel, by decide +kernel⟩
def sp__law_ak_size : Spc := fun ν as k => as = [.s] ∧ ν + 2 ≤ 1000000000 ∧ ∀ (ν' : Nat) (i : Int), ν' ≤ ν + 2 → (i ≠ 0 ∧ -6 ≤ i ∧ i ≤ 6) → k ν' (.d (eI i))
theorem ok__law_ak_size (A : At K mg "_law_ak_size" s__law_ak_size) (B : Bi mg) (T : Tx K mg C) (HF : HouseF K C) (G__law_pick : FnG P w K mg base C 3 "_law_pick" ["_law_state", "_law_several"] sp__law_pick) : FnG P w K mg base C 4 "_law_ak_size" ["_law_state"] sp__law_ak_size := by
  refine def_g (lev := 3) A sc__law_ak_size (fun _ _ _ _ _ _ us hl => match us, hl with | [_], _ => rfl) (fun ν as k h => ?_) fun f cdv A outer s H E st hr W hW ok ν as k h => ?_
  · obtain ⟨rfl, hν, hk⟩ := h
    rfl
  · obtain ⟨rfl, hν, hk⟩ := h
    subst hW
    refine r_cons (s_set 1 ok (q_call G__law_pick (hr.mono (by decide)) (qa_cons (q_v 0 ⟨_, rfl, qa_cons (q_lst (qa_cons (q_int (qa_cons (q_int (qa_cons (q_int (qa_cons (q_int (qa_cons (q_int (qa_cons (q_int (qa_cons (q_int (qa_cons (q_int (qa_cons (q_int (qa_cons (q_int (qa_nil ⟨_, rfl, by simp, fun p => qa_nil ⟨rfl, ⟨_, rfl, by simp, by omega, fun ν1 d hν1 hd => ⟨rfl, ?_⟩⟩⟩⟩))))))))))))))))))))))⟩))))
    obtain ⟨a, rfl, ha⟩ : ∃ a : Int, d = .int a ∧ 1 ≤ a ∧ a ≤ 6 := by
      have hd : d ∈ ([.int 2, .int 1, .int 3, .int 2, .int 4, .int 1, .int 6, .int 3, .int 2, .int 5] : List D) := hd
      simp only [List.mem_cons, List.not_mem_nil, or_false] at hd
      rcases hd with rfl | rfl | rfl | rfl | rfl | rfl | rfl | rfl | rfl | rfl <;> exact ⟨_, rfl, by decide, by decide⟩
    refine r_one (s_ret (q_mul (q_v 1 ⟨_, rfl, ⟨_, rfl, q_call G__law_pick (hr.mono (by decide)) (qa_cons (q_v 0 ⟨_, rfl, qa_cons (q_lst (qa_cons (q_int (qa_cons (q_int (qa_cons (q_int (qa_cons (q_neg (q_int ⟨_, rfl, qa_nil ⟨_, rfl, by simp, fun p => qa_nil ⟨rfl, ⟨_, rfl, by simp, by omega, fun ν2 d hν2 hd => ?_⟩⟩⟩⟩))))))))))⟩))⟩⟩)))
    obtain ⟨b, rfl, hb⟩ : ∃ b : Int, d = .int b ∧ (b = 1 ∨ b = -1) := by
      have hd : d ∈ ([.int 1, .int 1, .int 1, .int (-1)] : List D) := hd
      simp only [List.mem_cons, List.not_mem_nil, or_false] at hd
      rcases hd with rfl | rfl | rfl | rfl <;> exact ⟨_, rfl, by decide⟩
    refine ⟨_, rfl, .inl (by omega), ⟨rfl, hk ν2 _ (by omega) ?_⟩⟩
    rcases hb with rfl | rfl <;> omega
/-! ### _law_strolled -/
abbrev s__law_strolled : Stmt := topS 93
theorem sc__law_strolled : FnScope ["_law_state", "_law_doors_here", "_law_room_here", "_law_many", "_law_here", "_law_pulls_here", "_law_steps_here", "_law_turn", "_law_some", "_law_step"] ["_law_state", "_law_doors_here", "_law_room_here", "_law_many"] (defScope s__law_strolled) := ⟨rfl, rfl, rfl, by decide +kernel, rfl, by decide +kernel, by decide +kernel⟩
def sp__law_strolled : Spc := fun ν as k => ∃ rooms ds room, ∃ many : Nat, as = [.s, .d (eDs ds), .d (eI room), .d (eI many)] ∧ Hs rooms ds ∧ many ≤ 20 ∧ ν + 100 ≤ 1000000000 ∧ ∀ (ν' : Nat) (u : Walk) (e : Int), ν' ≤ ν + 100 → WOk ds u e → u.room = room → u.passes.length ≤ many → k ν' (.d (eW u))
theorem ok__law_strolled (A : At K mg "_law_strolled" s__law_strolled) (B : Bi mg) (T : Tx K mg C) (HF : HouseF K C) (G__law_draw : FnG P w K mg base C 2 "_law_draw" ["_law_state", "_law_size_here"] sp__law_draw) (G__law_gate : FnG P w K mg base C 1 "_law_gate" ["_law_doors_here", "_law_step"] sp__law_gate) (G__law_pick : FnG P w K mg base C 3 "_law_pick" ["_law_state", "_law_several"] sp__law_pick) (G__law_pulls : FnG P w K mg base C 3 "_law_pulls" ["_law_state", "_law_doors_here", "_law_step"] sp__law_pulls) (G__law_steps : FnG P w K mg base C 2 "_law_steps" ["_law_doors_here", "_law_room_here"] sp__law_steps) : FnG P w K mg base C 4 "_law_strolled" ["_law_state", "_law_doors_here", "_law_room_here", "_law_many"] sp__law_strolled := by
  refine def_g (lev := 3) A sc__law_strolled (fun _ _ _ _ _ _ us hl => match us, hl with | [_, _, _, _], _ => rfl) (fun ν as k h => ?_) fun f cdv A outer s H E st hr W hW ok ν as k h => ?_
  · obtain ⟨rooms, ds, room, many, rfl, hs, hm, hν, hk⟩ := h
    rfl
  · obtain ⟨rooms, ds, room, many, rfl, hs, hm, hν, hk⟩ := h
    subst hW
    have hz := hs.nz
    have hdl := hs.len
    refine r_cons (s_par3 4 5 6 ok (qa_cons (q_v 2 ⟨_, rfl, qa_cons (q_lst (qa_nil ⟨_, rfl, by simp, fun p => qa_cons (q_lst (qa_nil ⟨_, rfl, by simp, fun q => qa_nil ⟨_, _, _, rfl, rfl, rfl, rfl, ?_⟩⟩))⟩))⟩)))
    refine r_cons (s_forW 7 ok (qi_range1 B.range (q_call G__law_draw (hr.mono (by decide)) (qa_cons (q_v 0 ⟨_, rfl, qa_cons (q_add (q_v 3 ⟨_, rfl, ⟨_, rfl, q_int ⟨_, rfl, qa_nil ⟨rfl, ⟨_, rfl, by omega, by omega, fun ν1 r hν1 hr1 => ⟨r.toNat, by rw [Int.toNat_of_nonneg hr1.1], by omega, ⟨fun _ => trivial, fun i ν' Γ => ∃ (here : Int) (pulls : List Int) (es : List Pass) (x7 x8 x9 : Option Sl), Path ds room es here ∧ pulls.length = es.length ∧ es.length ≤ i ∧ i ≤ r.toNat ∧ ν' ≤ ν + 1 + 4 * i ∧ Γ = [some .s, some (.d (eDs ds)), some (.d (eI room)), some (.d (eI many)), some (.d (eI here)), some (.o p (pulls.map PyData.int)), some (.o q (es.map eP)), x7, x8, x9], ⟨room, [], [], _, _, _, rfl, rfl, by simp, by omega, by omega, rfl⟩, fun i ν' d Γ hd iv gh => ?_, fun ν' Γ iv => ?_⟩⟩⟩⟩⟩⟩⟩))⟩)))))
    · obtain ⟨here, pulls, es, x7, x8, x9, hp, hpl, hel, hi, hν', rfl⟩ := iv
      have hi2 : i < r.toNat := by
        have := (List.getElem?_eq_some_iff.mp hd).1
        simp at this
        omega
      refine r_cons (s_set 8 (ok.push gh) (q_call G__law_steps (hr.mono (by decide)) (qa_cons (q_v 1 ⟨_, rfl, qa_cons (q_v 4 ⟨_, rfl, qa_nil ⟨rfl, ⟨ds, here, rfl, by omega, fun p8 => ⟨rfl, ?_⟩⟩⟩⟩)⟩))))
      refine r_one (s_if (qt_cv (c_neNl (q_v 8 ⟨_, rfl, ⟨_, rfl, Lows.h, ⟨_, rfl, ⟨fun hb => ?_, fun hb => ?_⟩⟩⟩⟩) (ok.push gh))))
      · have hne : 0 < (stepsL ds here).length := by
          cases h : stepsL ds here with
          | nil =>
            rw [h] at hb
            cases hb
          | cons => simp
        have hsl := steps_len ds here
        refine r_cons (s_set 9 (ok.push gh) (q_call G__law_pick (hr.mono (by decide)) (qa_cons (q_v 0 ⟨_, rfl, qa_cons (q_v 8 ⟨_, rfl, qa_nil ⟨rfl, ⟨_, rfl, by rw [List.length_map]; omega, by omega, fun ν2 d hν2 hd => ?_⟩⟩⟩)⟩))))
        obtain ⟨e, he, rfl⟩ := List.mem_map.mp hd
        have he := mem_steps.mp he
        refine ⟨rfl, ?_⟩
        refine r_mid (fun ν3 Γ' => ν3 ≤ ν' + 2 ∧ ∃ e : Pass, (Pas ds e ∧ src ds e = here) ∧ ∃ x7, Γ' = [some .s, some (.d (eDs ds)), some (.d (eI room)), some (.d (eI many)), some (.d (eI here)), some (.o p (pulls.map PyData.int)), some (.o q (es.map eP)), x7, some (.o p8 ((stepsL ds here).map eP)), some (.d (eP e))]) (s_if (qt_w (qw_and (qt_cv (c_neNl (q_v 6 ⟨_, rfl, ⟨_, rfl, Lows.h, ⟨_, rfl, ⟨fun hb2 => qw_and1 (qt_cv (c_eqI (q_call G__law_draw (hr.mono (by decide)) (qa_cons (q_v 0 ⟨_, rfl, qa_cons (q_int (qa_nil ⟨rfl, ⟨_, rfl, by omega, by omega, fun ν3 r3 hν3 hr3 => ⟨_, rfl, q_int ⟨_, rfl, ⟨_, rfl, ⟨fun hb => ?_, fun hb => ?_⟩⟩⟩⟩⟩⟩))⟩))))), fun hb2 => ⟨fun hb => (nomatch hb), fun hb => ?_⟩⟩⟩⟩⟩) (ok.push gh)))))) ?_
        · have hen : es ≠ [] := by
            intro h
            rw [h] at hb2
            cases hb2
          refine r_one (s_set 9 (ok.push gh) (q_tup (qa_cons (q_ix (q_ixL (q_v 6 ⟨_, rfl, ⟨_, rfl, q_neg (q_int ⟨_, rfl, ⟨_, _, rfl, atI_lastD hen (0, 0), ⟨_, rfl, q_int ⟨_, _, rfl, rfl, qa_cons (q_sub (q_int ⟨_, rfl, q_ix (q_ixL (q_v 6 ⟨_, rfl, ⟨_, rfl, q_neg (q_int ⟨_, rfl, ⟨_, _, rfl, atI_lastD hen (0, 0), ⟨_, rfl, q_int ⟨_, _, rfl, rfl, ⟨_, rfl, qa_nil ⟨_, rfl, by simp, ⟨rfl, ?_⟩⟩⟩⟩⟩⟩⟩)⟩⟩))⟩))⟩⟩⟩⟩)⟩⟩))))))
          obtain ⟨es', l, rfl⟩ : ∃ es' l, es = es' ++ [l] := ⟨_, _, (List.dropLast_concat_getLast hen).symm⟩
          have hq := hp.snoc_inv
          refine ⟨by omega, inv l, ⟨inv_pas hq.2.1, ?_⟩, some (.d d), ?_⟩
          · rw [src_inv hq.2.1.2]
            exact hq.2.2.symm
          · rw [List.getLastD_concat]
            rfl
        · exact r_nil ⟨by omega, e, he, _, rfl⟩
        · exact r_nil ⟨by omega, e, he, _, rfl⟩
        · rintro ν3 Γ' ⟨hν3, e, ⟨he, hsr⟩, x7, rfl⟩
          refine r_cons (s_append 5 rfl (q_call G__law_pulls (hr.mono (by decide)) (qa_cons (q_v 0 ⟨_, rfl, qa_cons (q_v 1 ⟨_, rfl, qa_cons (q_v 9 ⟨_, rfl, qa_nil ⟨rfl, ⟨rooms, _, _, rfl, hs, he, by omega, fun ν4 n hν4 => ⟨_, rfl, by rw [List.length_map]; omega, ?_⟩⟩⟩⟩)⟩)⟩))))
          refine r_cons (s_append 6 rfl (q_v 9 ⟨_, rfl, ⟨_, rfl, by rw [List.length_map]; omega, ?_⟩⟩))
          refine r_one (s_set 4 (ok.push gh) (q_ix (q_call G__law_gate (hr.mono (by decide)) (qa_cons (q_v 1 ⟨_, rfl, qa_cons (q_v 9 ⟨_, rfl, qa_nil ⟨rfl, ⟨_, _, rfl, he, ⟨_, rfl, q_int ⟨_, _, rfl, rfl, ⟨rfl, ?_⟩⟩⟩⟩⟩⟩)⟩)))))
          refine ⟨dst ds e, pulls ++ [n], es ++ [e], x7, some (.o p8 ((stepsL ds here).map eP)), some (.d (eP e)), hp.snoc he hsr, by simp [hpl], by simp; omega, by omega, by omega, ?_⟩
          rw [List.map_append, List.map_append]
          rfl
      · exact r_nil ⟨here, pulls, es, _, _, _, hp, hpl, by omega, by omega, by omega, rfl⟩
    · obtain ⟨here, pulls, es, x7, x8, x9, hp, hpl, hel, hi, hν', rfl⟩ := iv
      refine r_one (s_ret (q_tup (qa_cons (q_v 2 ⟨_, rfl, qa_cons (q_toTup B.tuple (q_catL (q_v 5 ⟨_, rfl, ⟨_, ⟨rfl, fun _ q => nomatch q⟩, q_lst (qa_cons (q_sub (q_call G__law_draw (hr.mono (by decide)) (qa_cons (q_v 0 ⟨_, rfl, qa_cons (q_int (qa_nil ⟨rfl, ⟨_, rfl, by omega, by omega, fun ν2 r2 hν2 hr2 => ⟨_, rfl, q_int ⟨_, rfl, qa_nil ⟨_, rfl, by simp, fun p => ⟨_, ⟨rfl, fun _ q => nomatch q⟩, ?_, fun p => ⟨_, rfl, qa_cons (q_toTup B.tuple (q_v 6 ⟨_, rfl, ⟨_, rfl, qa_nil ⟨_, rfl, by simp, ⟨rfl, ?_⟩⟩⟩⟩))⟩⟩⟩⟩⟩⟩⟩))⟩)))))⟩⟩)))⟩))))
      · simp
        omega
      · have e1 : PyData.tuple (List.map datD [Sl.d (eI room), .d (.tuple (List.map PyData.int pulls ++ [.int (r2 - 4)])), .d (.tuple (es.map eP))]) = eW ⟨room, pulls ++ [r2 - 4], es⟩ := by
          unfold eW eIs
          rw [List.map_append]
          rfl
        exact (congrArg (fun z => k ν2 (.d z)) e1).mpr (hk ν2 ⟨room, pulls ++ [r2 - 4], es⟩ here (by omega) ⟨by simp [hpl], hp⟩ rfl (by show es.length ≤ many; omega))
end
end PF


set_option maxHeartbeats 4000000
/-! D21 -/
namespace PF
open PySem PySem.Spec PyProof.Rows L2 QL PR
section
variable {P : Program} {w : World} {K : PySem.W.Frag} {mg : Str → Option Value} {base : Heap} {C : Addr}
/-! ### _law_ak_lead -/
abbrev s__law_ak_lead : Stmt := topS 112
theorem sc__law_ak_lead : FnScope ["_law_state", "_law_doors_here", "_law_room_here"] ["_law_state", "_law_doors_here", "_law_room_here"] (defScope s__law_ak_lead) := ⟨rfl, rfl, rfl, by decide +kernel, rfl, by decide +kernel, by decide +kernel⟩
def sp__law_ak_lead : Spc := fun ν as k => ∃ rooms ds room, as = [.s, .d (eDs ds), .d (eI room)] ∧ Hs rooms ds ∧ ν + 100 ≤ 1000000000 ∧ ∀ (ν' : Nat) (u : Walk) (e : Int), ν' ≤ ν + 100 → WOk ds u e → u.room = room → u.passes.length ≤ 3 → k ν' (.d (eW u))
theorem ok__law_ak_lead (A : At K mg "_law_ak_lead" s__law_ak_lead) (B : Bi mg) (T : Tx K mg C) (HF : HouseF K C) (G__law_strolled : FnG P w K mg base C 4 "_law_strolled" ["_law_state", "_law_doors_here", "_law_room_here", "_law_many"] sp__law_strolled) : FnG P w K mg base C 5 "_law_ak_lead" ["_law_state", "_law_doors_here", "_law_room_here"] sp__law_ak_lead := by
  refine def_g (lev := 4) A sc__law_ak_lead (fun _ _ _ _ _ _ us hl => match us, hl with | [_, _, _], _ => rfl) (fun ν as k h => ?_) fun f cdv A outer s H E st hr W hW ok ν as k h => ?_
  · obtain ⟨rooms, ds, room, rfl, hs, hν, hk⟩ := h
    rfl
  · obtain ⟨rooms, ds, room, rfl, hs, hν, hk⟩ := h
    subst hW
    exact r_one (s_ret (q_call G__law_strolled (hr.mono (by decide)) (qa_cons (q_v 0 ⟨_, rfl, qa_cons (q_v 1 ⟨_, rfl, qa_cons (q_v 2 ⟨_, rfl, qa_cons (q_int (qa_nil ⟨rfl, ⟨rooms, ds, room, 3, rfl, hs, by decide, hν, fun ν1 u e h1 h2 h3 h4 => ⟨rfl, hk ν1 u e h1 h2 h3 h4⟩⟩⟩))⟩)⟩)⟩))))
/-! ### _law_k37_bent -/
abbrev s__law_k37_bent : Stmt := topS 115
theorem sc__law_k37_bent : FnScope ["_law_state", "_law_walk_here", "_law_spot", "_law_more", "_law_pulls_here"] ["_law_state", "_law_walk_here"] (defScope s__law_k37_bent) := ⟨rfl, rfl, rfl, by decide +kernel, rfl, by decide +kernel, by decide +kernel⟩
def sp__law_k37_bent : Spc := fun ν as k => ∃ u : Walk, as = [.s, .d (eW u)] ∧ (0 < u.pulls.length ∧ u.pulls.length ≤ 201) ∧ ν + 10 ≤ 1000000000 ∧ ∀ (ν' : Nat) (v : Walk), ν' ≤ ν + 10 → v.room = u.room → v.passes = u.passes → v.pulls.length = u.pulls.length → k ν' (.d (eW v))
theorem ok__law_k37_bent (A : At K mg "_law_k37_bent" s__law_k37_bent) (B : Bi mg) (T : Tx K mg C) (HF : HouseF K C) (G__law_draw : FnG P w K mg base C 2 "_law_draw" ["_law_state", "_law_size_here"] sp__law_draw) (G__law_pick : FnG P w K mg base C 3 "_law_pick" ["_law_state", "_law_several"] sp__law_pick) : FnG P w K mg base C 4 "_law_k37_bent" ["_law_state", "_law_walk_here"] sp__law_k37_bent := by
  refine def_g (lev := 3) A sc__law_k37_bent (fun _ _ _ _ _ _ us hl => match us, hl with | [_, _], _ => rfl) (fun ν as k h => ?_) fun f cdv A outer s H E st hr W hW ok ν as k h => ?_
  · obtain ⟨u, rfl, hl, hν, hk⟩ := h
    rfl
  · obtain ⟨u, rfl, hl, hν, hk⟩ := h
    subst hW
    refine r_cons (s_set 2 ok (q_call G__law_draw (hr.mono (by decide)) (qa_cons (q_v 0 ⟨_, rfl, qa_cons (q_len B.len (q_ix (q_v 1 ⟨_, rfl, ⟨_, rfl, q_int ⟨_, _, rfl, rfl, ⟨_, rfl, qa_nil ⟨rfl, ⟨_, rfl, by rw [List.length_map]; omega, by omega, fun ν1 r hν1 hr1 => ⟨rfl, ?_⟩⟩⟩⟩⟩⟩⟩)))⟩))))
    rw [List.length_map] at hr1
    obtain ⟨m, rfl⟩ : ∃ m : Nat, r = m := ⟨r.toNat, by omega⟩
    have hm : m < u.pulls.length := by omega
    refine r_cons (s_set 3 ok (q_call G__law_pick (hr.mono (by decide)) (qa_cons (q_v 0 ⟨_, rfl, qa_cons (q_lst (qa_cons (q_int (qa_cons (q_neg (q_int ⟨_, rfl, qa_cons (q_int (qa_cons (q_int (qa_cons (q_int (qa_cons (q_int (qa_nil ⟨_, rfl, by simp, fun p => qa_nil ⟨rfl, ⟨_, rfl, by simp, by omega, fun ν2 d hν2 hd => ?_⟩⟩⟩))))))))⟩))))))⟩))))
    obtain ⟨b, rfl⟩ : ∃ b : Int, d = .int b := by
      have hd : d ∈ ([.int 1, .int (-1), .int 2, .int 3, .int 6, .int 0] : List D) := hd
      simp only [List.mem_cons, List.not_mem_nil, or_false] at hd
      rcases hd with rfl | rfl | rfl | rfl | rfl | rfl <;> exact ⟨_, rfl⟩
    refine ⟨rfl, ?_⟩
    refine r_cons (s_set 4 ok (q_cat (q_cat (q_sl01 (q_ix (q_v 1 ⟨_, rfl, ⟨_, rfl, q_int ⟨_, _, rfl, rfl, ⟨_, rfl, q_v 2 ⟨_, rfl, ⟨_, rfl, ⟨_, rfl, q_tup (qa_cons (q_add (q_ix (q_ix (q_v 1 ⟨_, rfl, ⟨_, rfl, q_int ⟨_, _, rfl, rfl, ⟨_, rfl, q_v 2 ⟨_, rfl, ⟨_, _, rfl, atI_getD hm 0, ⟨_, rfl, q_v 3 ⟨_, rfl, ⟨_, rfl, qa_nil ⟨_, rfl, by simp, ⟨_, rfl, ?_, ⟨_, rfl, q_sl10 (q_ix (q_v 1 ⟨_, rfl, ⟨_, rfl, q_int ⟨_, _, rfl, rfl, ⟨_, rfl, q_add (q_v 2 ⟨_, rfl, ⟨_, rfl, q_int ⟨_, rfl, ⟨_, rfl, ⟨_, rfl, ?_, ⟨rfl, ?_⟩⟩⟩⟩⟩⟩)⟩⟩⟩⟩))⟩⟩⟩⟩⟩⟩⟩⟩⟩⟩⟩⟩)))))⟩⟩⟩⟩⟩⟩⟩))))))
    · rw [cut_take]
      simp
      omega
    · rw [cut_take, show ((m : Int) + 1) = ((m + 1 : Nat) : Int) by omega, cut_drop]
      simp
      omega
    rw [cut_take, show ((m : Int) + 1) = ((m + 1 : Nat) : Int) by omega, cut_drop]
    refine r_one (s_ret (q_tup (qa_cons (q_ix (q_v 1 ⟨_, rfl, ⟨_, rfl, q_int ⟨_, _, rfl, rfl, qa_cons (q_v 4 ⟨_, rfl, qa_cons (q_ix (q_v 1 ⟨_, rfl, ⟨_, rfl, q_int ⟨_, _, rfl, rfl, qa_nil ⟨_, rfl, by simp, ⟨rfl, ?_⟩⟩⟩⟩⟩))⟩)⟩⟩⟩)))))
    have h := hk ν2 ⟨u.room, u.pulls.take m ++ [u.pulls.getD m 0 + b] ++ u.pulls.drop (m + 1), u.passes⟩ (by omega) rfl rfl (by simp; omega)
    unfold eW eIs at h
    rw [List.map_append, List.map_append] at h
    exact h
end
end PF


set_option maxHeartbeats 4000000
/-! D22: every room reaches every room -/
namespace PF
open PySem PySem.Spec PyProof.Rows L2 QL PR
structure Cn (rooms : Int) (ds : List Door) : Prop where
  near : ∀ r, 1 ≤ r → r < rooms → ∃ d, d ∈ ds ∧ (0 ≤ d.1 ∧ d.1 < r) ∧ d.2.2.1 = r
theorem Cn.pass {rooms : Int} {ds : List Door} (h : Cn rooms ds) {r : Int} (h1 : 1 ≤ r) (h2 : r < rooms) : ∃ e, Pas ds e ∧ src ds e = r ∧ 0 ≤ dst ds e ∧ dst ds e < r := by
  obtain ⟨d, hd, hn, hf⟩ := h.near r h1 h2
  obtain ⟨i, hi⟩ := List.mem_iff_getElem?.mp hd
  have hl : i < ds.length := (List.getElem?_eq_some_iff.mp hi).1
  have hg : ds.getD i (0, 1, 0, 1) = d := by rw [List.getD_eq_getElem?_getD, hi]; rfl
  refine ⟨((i : Int), 1), ⟨⟨by show (0 : Int) ≤ (i : Int); omega, by show (i : Int) < (ds.length : Int); omega⟩, .inr rfl⟩, ?_, ?_⟩
  · show (gate ds ((i : Int), 1)).1 = r
    unfold gate
    rw [if_neg (by decide : ¬ (1 : Int) = 0), Int.toNat_natCast, hg]
    exact hf
  · show 0 ≤ (gate ds ((i : Int), 1)).2.2.1 ∧ (gate ds ((i : Int), 1)).2.2.1 < r
    unfold gate
    rw [if_neg (by decide : ¬ (1 : Int) = 0), Int.toNat_natCast, hg]
    exact hn
theorem Cn.all {rooms : Int} {ds : List Door} (h : Cn rooms ds) (S : Int → Prop) (hS : ∀ e, Pas ds e → S (src ds e) → S (dst ds e)) {a b : Int} (ha : S a) (hra : 0 ≤ a ∧ a < rooms) (hrb : 0 ≤ b ∧ b < rooms) : S b := by
  have down : ∀ n : Nat, ∀ r : Int, 0 ≤ r → r < rooms → r.toNat ≤ n → S r → S 0 := by
    intro n
    induction n with
    | zero =>
      intro r h0 h1 hn hs
      have : r = 0 := by omega
      rw [← this]
      exact hs
    | succ n ih =>
      intro r h0 h1 hn hs
      by_cases hz : r = 0
      · rw [← hz]
        exact hs
      · obtain ⟨e, he, hsr, hd0, hd1⟩ := h.pass (by omega) h1
        exact ih (dst ds e) hd0 (by omega) (by omega) (hS e he (by rw [hsr]; exact hs))
  have h0 : S 0 := down a.toNat a hra.1 hra.2 (Nat.le_refl _) ha
  have up : ∀ n : Nat, ∀ r : Int, 0 ≤ r → r < rooms → r.toNat ≤ n → S r := by
    intro n
    induction n with
    | zero =>
      intro r h1 h2 hn
      have : r = 0 := by omega
      rw [this]
      exact h0
    | succ n ih =>
      intro r h1 h2 hn
      by_cases hz : r = 0
      · rw [hz]
        exact h0
      · obtain ⟨e, he, hsr, hd0, hd1⟩ := h.pass (by omega) h2
        have := hS (inv e) (inv_pas he) (by rw [src_inv he.2]; exact ih (dst ds e) hd0 (by omega) (by omega))
        rw [dst_inv he.2, hsr] at this
        exact this
  exact up b.toNat b hrb.1 hrb.2 (Nat.le_refl _)
theorem few3 : ∀ {n : Nat} {xs : List Int}, xs.Nodup → (∀ x, x ∈ xs → 0 ≤ x ∧ x < (n : Int)) → xs.length ≤ n := by
  intro n
  induction n with
  | zero =>
    intro xs _ h
    cases xs with
    | nil => simp
    | cons x xs =>
      have := h x (by simp)
      omega
  | succ n ih =>
    intro xs hn h
    have h1 : (xs.erase (n : Int)).length ≤ n := ih (hn.erase _) fun x hx => by
      have h2 := (List.Nodup.mem_erase_iff hn).mp hx
      have := h x h2.2
      have := h2.1
      omega
    have := List.length_erase (a := (n : Int)) (l := xs)
    split at this <;> omega
/-- what _law_way knows after some turns -/
structure Bf (rooms : Int) (ds : List Door) (a : Int) (L : List (Int × List Pass)) : Prop where
  nd : (L.map (·.1)).Nodup
  ent : ∀ (j : Nat) (r : Int) (es : List Pass), L[j]? = some (r, es) → Path ds a es r ∧ es.length ≤ j ∧ 0 ≤ r ∧ r < rooms
  ne : L[0]? = some (a, [])
theorem Bf.start {rooms : Int} {ds : List Door} {a : Int} (h : 0 ≤ a ∧ a < rooms) : Bf rooms ds a [(a, [])] := by
  refine ⟨by simp, fun j r es hj => ?_, rfl⟩
  cases j with
  | zero =>
    cases hj
    exact ⟨rfl, Nat.le_refl _, h⟩
  | succ j => cases hj
theorem Bf.few {rooms : Int} {ds : List Door} {a : Int} {L : List (Int × List Pass)} (h : Bf rooms ds a L) (hr : rooms ≤ 3) : L.length ≤ 3 := by
  have := few3 (n := 3) h.nd fun x hx => by
    obtain ⟨⟨r, es⟩, hq, rfl⟩ := List.mem_map.mp hx
    obtain ⟨j, hj⟩ := List.mem_iff_getElem?.mp hq
    have := (h.ent j r es hj).2.2
    show 0 ≤ r ∧ r < ((3 : Nat) : Int)
    omega
  rw [List.length_map] at this
  exact this
theorem Bf.snoc {rooms : Int} {ds : List Door} {a r : Int} {es : List Pass} {e : Pass} {t : Nat} {L : List (Int × List Pass)} (h : Bf rooms ds a L) (ht : L[t]? = some (r, es)) (he : Pas ds e) (hs : src ds e = r) (hd : 0 ≤ dst ds e ∧ dst ds e < rooms) (hn : dst ds e ∉ L.map (·.1)) : Bf rooms ds a (L ++ [(dst ds e, es ++ [e])]) := by
  have hl : t < L.length := (List.getElem?_eq_some_iff.mp ht).1
  have h1 := h.ent t r es ht
  refine ⟨?_, fun j r' es' hj => ?_, ?_⟩
  · rw [List.map_append, List.map_cons, List.map_nil, List.nodup_append]
    refine ⟨h.nd, by simp, fun x hx y hy => ?_⟩
    simp at hy
    intro e
    rw [e, hy] at hx
    exact hn hx
  · by_cases hj2 : j < L.length
    · rw [List.getElem?_append_left hj2] at hj
      exact h.ent j r' es' hj
    · have hj3 := (List.getElem?_eq_some_iff.mp hj).1
      simp at hj3
      have : j = L.length := by omega
      subst this
      simp at hj
      obtain ⟨rfl, rfl⟩ := hj
      refine ⟨h1.1.snoc he hs, by simp; omega, hd⟩
  · rw [List.getElem?_append_left (by omega)]
    exact h.ne
end PF


set_option maxHeartbeats 4000000
/-! D23 -/
namespace PF
open PySem PySem.Spec PyProof.Rows L2 QL PR
def kvL (L : List (Int × List Pass)) : List (Int × D) := L.map fun q => (q.1, ePs q.2)
def quL (L : List (Int × List Pass)) : List D := L.map fun q => .int q.1
theorem kvL_get {L : List (Int × List Pass)} (hn : (L.map (·.1)).Nodup) {r : Int} {es : List Pass} (h : (r, es) ∈ L) : QL.getD (kvL L) r = some (ePs es) := by
  unfold QL.getD kvL
  induction L with
  | nil => cases h
  | cons q L ih =>
    rw [List.map_cons, List.nodup_cons] at hn
    rw [List.map_cons, List.find?_cons]
    by_cases e : q.1 = r
    · rw [decide_eq_true e]
      rcases List.mem_cons.mp h with h | h
      · rw [← h]
        rfl
      · exact absurd (List.mem_map.mpr ⟨_, h, e.symm⟩) hn.1
    · rw [decide_eq_false e]
      rcases List.mem_cons.mp h with h | h
      · rw [← h] at e
        exact absurd rfl e
      · exact ih hn.2 h
theorem kvL_some {L : List (Int × List Pass)} {r : Int} : (QL.getD (kvL L) r).isSome = decide (r ∈ L.map (·.1)) := by
  unfold QL.getD kvL
  induction L with
  | nil => rfl
  | cons q L ih =>
    rw [List.map_cons, List.find?_cons, List.map_cons]
    by_cases e : q.1 = r
    · rw [decide_eq_true e, decide_eq_true (List.mem_cons.mpr (.inl e.symm))]
      rfl
    · rw [decide_eq_false e]
      rw [ih]
      simp only [List.mem_cons, decide_eq_decide]
      exact ⟨.inr, fun h => h.resolve_left fun h => e h.symm⟩
theorem kvL_put {L : List (Int × List Pass)} {r : Int} {es : List Pass} (h : r ∉ L.map (·.1)) : putD (kvL L) r (ePs es) = kvL (L ++ [(r, es)]) := by
  unfold putD
  have e : (kvL L).any (fun q => decide (q.1 = r)) = false := by
    rw [List.any_eq_false]
    intro q hq
    obtain ⟨p, hp, rfl⟩ := List.mem_map.mp hq
    intro e
    exact h (List.mem_map.mpr ⟨p, hp, of_decide_eq_true e⟩)
  rw [e]
  unfold kvL
  rw [List.map_append]
  rfl
end PF


set_option maxHeartbeats 4000000
/-! D24 -/
namespace PF
open PySem PySem.Spec PyProof.Rows L2 QL PR
theorem nd_t {p : Prop} [Decidable p] (h : (!decide p) = true) : ¬ p := fun q => by
  rw [decide_eq_true q] at h
  cases h
theorem nd_f {p : Prop} [Decidable p] (h : (!decide p) = false) : p := by
  by_cases q : p
  · exact q
  · rw [decide_eq_false q] at h
    cases h
section
variable {P : Program} {w : World} {K : PySem.W.Frag} {mg : Str → Option Value} {base : Heap} {C : Addr}
/-! ### _law_way -/
abbrev s__law_way : Stmt := topS 95
theorem sc__law_way : FnScope ["_law_doors_here", "_law_start", "_law_goal", "_law_known", "_law_queue", "_law_turn", "_law_step", "_law_there"] ["_law_doors_here", "_law_start", "_law_goal"] (defScope s__law_way) := ⟨rfl, rfl, rfl, by decide +kernel, rfl, by decide +kernel, by decide +kernel⟩
def sp__law_way : Spc := fun ν as k => ∃ rooms ds a b, as = [.d (eDs ds), .d (eI a), .d (eI b)] ∧ Hs rooms ds ∧ Cn rooms ds ∧ (0 ≤ a ∧ a < rooms) ∧ (0 ≤ b ∧ b < rooms) ∧ ∀ es, Path ds a es b → es.length ≤ 2 → k ν (.d (ePs es))
theorem ok__law_way (A : At K mg "_law_way" s__law_way) (B : Bi mg) (T : Tx K mg C) (HF : HouseF K C) (G__law_gate : FnG P w K mg base C 1 "_law_gate" ["_law_doors_here", "_law_step"] sp__law_gate) (G__law_steps : FnG P w K mg base C 2 "_law_steps" ["_law_doors_here", "_law_room_here"] sp__law_steps) : FnG P w K mg base C 3 "_law_way" ["_law_doors_here", "_law_start", "_law_goal"] sp__law_way := by
  refine def_g (lev := 2) A sc__law_way (fun _ _ _ _ _ _ us hl => match us, hl with | [_, _, _], _ => rfl) (fun ν as k h => ?_) fun f cdv A outer s H E st hr W hW ok ν as k h => ?_
  · obtain ⟨rooms, ds, a, b, rfl, hs, hc, ha, hb, hk⟩ := h
    rfl
  · obtain ⟨rooms, ds, a, b, rfl, hs, hc, ha, hb, hk⟩ := h
    subst hW
    have hdl := hs.len
    refine r_cons (s_par3 3 4 5 ok (qa_cons (q_disp1 (q_v 1 ⟨_, rfl, ⟨_, rfl, q_tup (qa_nil ⟨_, rfl, by simp, ⟨_, rfl, fun p => qa_cons (q_lst (qa_cons (q_v 1 ⟨_, rfl, qa_nil ⟨_, rfl, by simp, fun q => qa_cons (q_int (qa_nil ⟨_, _, _, rfl, rfl, rfl, rfl, ?_⟩))⟩⟩)))⟩⟩)⟩⟩))))
    refine r_cons (s_while (fun m Γ => ∃ (L : List (Int × List Pass)) (t : Nat) (x6 x7 : Option Sl), Bf rooms ds a L ∧ t ≤ L.length ∧ m = 3 - t ∧ (∀ j, j < t → ∀ e, Pas ds e → (∃ es, L[j]? = some (src ds e, es)) → dst ds e ∈ L.map (·.1)) ∧ Γ = [some (.d (eDs ds)), some (.d (eI a)), some (.d (eI b)), some (.ok p (kvL L)), some (.o q (quL L)), some (.d (eI (t : Int))), x6, x7]) ok ⟨_, [(a, [])], 0, _, _, Bf.start ha, by simp, rfl, fun j hj => absurd hj (by omega), rfl⟩ fun m Γ iv => ?_)
    obtain ⟨L, t, x6, x7, hB, ht, rfl, hcl, rfl⟩ := iv
    have hfew := hB.few hs.rm.2
    refine qt_cv (c_lt (q_v 5 ⟨_, rfl, ⟨_, rfl, q_len B.len (q_v 4 ⟨_, rfl, ⟨_, rfl, ⟨_, rfl, ⟨_, rfl, ⟨rfl, fun hb2 => ?_, fun hb2 => ?_⟩⟩⟩⟩⟩)⟩⟩))
    · have htl : t < L.length := by
        have := of_decide_eq_true hb2
        simp [quL] at this
        omega
      obtain ⟨⟨r, es⟩, hLt⟩ : ∃ q, L[t]? = some q := ⟨_, List.getElem?_eq_getElem htl⟩
      have hqt : ∀ M : List (Int × List Pass), M[t]? = some (r, es) → atI (quL M) (t : Int) = some (.int r) := fun M h => atI_nat (by unfold quL; rw [List.getElem?_map, h]; rfl)
      refine r_cons (s_for 6 ok (qi_lst (q_call G__law_steps (hr.mono (by decide)) (qa_cons (q_v 0 ⟨_, rfl, qa_cons (q_ixL (q_v 4 ⟨_, rfl, ⟨_, rfl, q_v 5 ⟨_, rfl, ⟨_, _, rfl, hqt L hLt, qa_nil ⟨rfl, ⟨ds, r, rfl, by omega, fun p2 => ⟨_, rfl, rfl, ⟨fun _ => trivial, fun i Γ => ∃ (M : List (Int × List Pass)) (x6 x7 : Option Sl), Bf rooms ds a M ∧ (∃ N, M = L ++ N) ∧ (∀ j, j < i → ∀ e, (stepsL ds r)[j]? = some e → dst ds e ∈ M.map (·.1)) ∧ Γ = [some (.d (eDs ds)), some (.d (eI a)), some (.d (eI b)), some (.ok p (kvL M)), some (.o q (quL M)), some (.d (eI (t : Int))), x6, x7], ⟨L, _, _, hB, ⟨[], by simp⟩, fun j hj => absurd hj (by omega), rfl⟩, fun i d Γ hd iv gh => ?_, fun Γ iv => ?_⟩⟩⟩⟩⟩⟩⟩⟩))⟩)))))
      · obtain ⟨M, x6, x7, hM, ⟨N, rfl⟩, hst, rfl⟩ := iv
        obtain ⟨e, hse, rfl⟩ := getMap hd
        have hps := mem_steps.mp (List.mem_of_getElem? hse)
        have hMt : (L ++ N)[t]? = some (r, es) := by rw [List.getElem?_append_left htl]; exact hLt
        refine r_cons (s_set 7 (ok.push gh) (q_ix (q_call G__law_gate (hr.mono (by decide)) (qa_cons (q_v 0 ⟨_, rfl, qa_cons (q_v 6 ⟨_, rfl, qa_nil ⟨rfl, ⟨_, _, rfl, hps.1, ⟨_, rfl, q_int ⟨_, _, rfl, rfl, ⟨rfl, ?_⟩⟩⟩⟩⟩⟩)⟩)))))
        refine r_one (s_if (qt_cv (c_dnotin (ok.push gh) (q_v 7 ⟨_, rfl, ⟨_, rfl, q_v 3 ⟨_, rfl, ⟨_, rfl, ⟨_, rfl, ⟨fun hb3 => ?_, fun hb3 => ?_⟩⟩⟩⟩⟩⟩))))
        · rw [kvL_some] at hb3
          have hni : dst ds e ∉ (L ++ N).map (·.1) := nd_t hb3
          have hfm := hM.few hs.rm.2
          refine r_cons (s_dput 3 (ok.push gh) rfl (q_cat (q_dget (ok.push gh) (q_v 3 ⟨_, rfl, ⟨_, rfl, q_ixL (q_v 4 ⟨_, rfl, ⟨_, rfl, q_v 5 ⟨_, rfl, ⟨_, _, rfl, hqt _ hMt, ⟨_, _, rfl, kvL_get hM.nd (List.mem_of_getElem? hMt), ⟨_, rfl, q_tup (qa_cons (q_v 6 ⟨_, rfl, qa_nil ⟨_, rfl, by simp, ⟨_, rfl, ?_, ⟨_, rfl, q_v 7 ⟨_, rfl, ⟨_, rfl, ?_, ?_⟩⟩⟩⟩⟩⟩))⟩⟩⟩⟩⟩⟩)⟩⟩))))
          · have := (hM.ent t r es hMt).2.1
            simp
            omega
          · unfold kvL
            rw [List.length_map]
            omega
          refine r_one (s_append 4 rfl (q_v 7 ⟨_, rfl, ⟨_, rfl, ?_, ?_⟩⟩))
          · unfold quL
            rw [List.length_map]
            omega
          refine ⟨rfl, L ++ N ++ [(dst ds e, es ++ [e])], some (.d (eP e)), some (.d (eI (dst ds e))), hM.snoc hMt hps.1 hps.2 (gate_dok hs hps.1).far hni, ⟨N ++ [(dst ds e, es ++ [e])], by simp⟩, fun j hj e' he' => ?_, ?_⟩
          · rw [List.map_append]
            by_cases h : j = i
            · subst h
              rw [hse] at he'
              cases he'
              exact List.mem_append_right _ (by simp)
            · exact List.mem_append_left _ (hst j (by omega) e' he')
          · have h1 : putD (kvL (L ++ N)) (dst ds e) (.tuple (es.map eP ++ [eP e])) = kvL (L ++ N ++ [(dst ds e, es ++ [e])]) := by
              rw [← kvL_put (es := es ++ [e]) hni]
              unfold ePs
              rw [List.map_append]
              rfl
            have h2 : quL (L ++ N) ++ [.int (dst ds e)] = quL (L ++ N ++ [(dst ds e, es ++ [e])]) := by
              unfold quL
              rw [List.map_append (l₁ := L ++ N)]
              rfl
            rw [← h1, ← h2]
            rfl
        · rw [kvL_some] at hb3
          have hin : dst ds e ∈ (L ++ N).map (·.1) := nd_f hb3
          refine r_nil ⟨rfl, L ++ N, _, _, hM, ⟨N, rfl⟩, fun j hj e' he' => ?_, rfl⟩
          by_cases h : j = i
          · subst h
            rw [hse] at he'
            cases he'
            exact hin
          · exact hst j (by omega) e' he'
      · obtain ⟨M, x6, x7, hM, ⟨N, rfl⟩, hst, rfl⟩ := iv
        refine r_one (s_set 5 ok (q_add (q_v 5 ⟨_, rfl, ⟨_, rfl, q_int ⟨_, rfl, ⟨rfl, ?_⟩⟩⟩⟩)))
        refine ⟨rfl, 3 - (t + 1), by omega, L ++ N, t + 1, x6, x7, hM, by rw [List.length_append]; omega, rfl, fun j hj e he ⟨es', hq⟩ => ?_, rfl⟩
        by_cases h : j < t
        · rw [List.getElem?_append_left (by omega)] at hq
          rw [List.map_append]
          exact List.mem_append_left _ (hcl j h e he ⟨es', hq⟩)
        · have : j = t := by omega
          subst this
          rw [List.getElem?_append_left htl, hLt] at hq
          have hr2 : r = src ds e := congrArg Prod.fst (Option.some.inj hq)
          obtain ⟨i, hi⟩ := List.mem_iff_getElem?.mp (mem_steps.mpr ⟨he, hr2.symm⟩)
          have hil := (List.getElem?_eq_some_iff.mp hi).1
          exact hst i (by simpa using hil) e hi
    · have htl : t = L.length := by
        have := of_decide_eq_false hb2
        simp [quL] at this
        omega
      have hbm : b ∈ L.map (·.1) := hc.all (fun r => r ∈ L.map (·.1)) (fun e he hm => by
        obtain ⟨⟨r, es⟩, hq, h1⟩ := List.mem_map.mp hm
        obtain ⟨j, hj⟩ := List.mem_iff_getElem?.mp hq
        have := (List.getElem?_eq_some_iff.mp hj).1
        exact hcl j (by omega) e he ⟨es, by rw [hj]; exact congrArg some (Prod.ext h1 rfl)⟩) (List.mem_map.mpr ⟨_, List.mem_of_getElem? hB.ne, rfl⟩) ha hb
      obtain ⟨⟨r, es⟩, hq, rfl⟩ := List.mem_map.mp hbm
      obtain ⟨j, hj⟩ := List.mem_iff_getElem?.mp hq
      have hjl := (List.getElem?_eq_some_iff.mp hj).1
      have h1 := hB.ent j r es hj
      exact r_one (s_ret (q_dget ok (q_v 3 ⟨_, rfl, ⟨_, rfl, q_v 2 ⟨_, rfl, ⟨_, _, rfl, kvL_get hB.nd hq, ⟨rfl, hk es h1.1 (by omega)⟩⟩⟩⟩⟩)))
end
end PF


set_option maxHeartbeats 4000000
/-! D25 -/
namespace PF
open PySem PySem.Spec PyProof.Rows L2 QL PR
section
variable {P : Program} {w : World} {K : PySem.W.Frag} {mg : Str → Option Value} {base : Heap} {C : Addr}
/-! ### _law_homing -/
abbrev s__law_homing : Stmt := topS 99
theorem sc__law_homing : FnScope ["_law_state", "_law_doors_here", "_law_room_here", "_law_many", "_law_out", "_law_back_here", "_law_turned", "_law_end_here", "_law_item"] ["_law_state", "_law_doors_here", "_law_room_here", "_law_many"] (defScope s__law_homing) := ⟨rfl, rfl, rfl, by decide +kernel, rfl, by decide +kernel, by decide +kernel⟩
def sp__law_homing : Spc := fun ν as k => ∃ rooms ds room, as = [.s, .d (eDs ds), .d (eI room), .d (eI 3)] ∧ Hs rooms ds ∧ Cn rooms ds ∧ (0 ≤ room ∧ room < rooms) ∧ ν + 200 ≤ 1000000000 ∧ ∀ (ν' : Nat) (u : Walk), ν' ≤ ν + 200 → WOk ds u room → u.room = room → u.passes.length ≤ 6 → k ν' (.d (eW u))
theorem ok__law_homing (A : At K mg "_law_homing" s__law_homing) (B : Bi mg) (T : Tx K mg C) (HF : HouseF K C) (G__law_back : FnG P w K mg base C 3 "_law_back" ["_law_doors_here", "_law_walk_here"] sp__law_back) (G__law_bare : FnG P w K mg base C 1 "_law_bare" ["_law_doors_here", "_law_room_here", "_law_steps_here"] sp__law_bare) (G__law_draw : FnG P w K mg base C 2 "_law_draw" ["_law_state", "_law_size_here"] sp__law_draw) (G__law_end : FnG P w K mg base C 2 "_law_end" ["_law_doors_here", "_law_walk_here"] sp__law_end) (G__law_joined : FnG P w K mg base C 1 "_law_joined" ["_law_one", "_law_other"] sp__law_joined) (G__law_pick : FnG P w K mg base C 3 "_law_pick" ["_law_state", "_law_several"] sp__law_pick) (G__law_strolled : FnG P w K mg base C 4 "_law_strolled" ["_law_state", "_law_doors_here", "_law_room_here", "_law_many"] sp__law_strolled) (G__law_way : FnG P w K mg base C 3 "_law_way" ["_law_doors_here", "_law_start", "_law_goal"] sp__law_way) : FnG P w K mg base C 5 "_law_homing" ["_law_state", "_law_doors_here", "_law_room_here", "_law_many"] sp__law_homing := by
  refine def_g (lev := 4) A sc__law_homing (fun _ _ _ _ _ _ us hl => match us, hl with | [_, _, _, _], _ => rfl) (fun ν as k h => ?_) fun f cdv A outer s H E st hr W hW ok ν as k h => ?_
  · obtain ⟨rooms, ds, room, rfl, hs, hc, hrm, hν, hk⟩ := h
    rfl
  · obtain ⟨rooms, ds, room, rfl, hs, hc, hrm, hν, hk⟩ := h
    subst hW
    refine r_cons (s_set 4 ok (q_call G__law_strolled (hr.mono (by decide)) (qa_cons (q_v 0 ⟨_, rfl, qa_cons (q_v 1 ⟨_, rfl, qa_cons (q_v 2 ⟨_, rfl, qa_cons (q_v 3 ⟨_, rfl, qa_nil ⟨rfl, ⟨rooms, ds, room, 3, rfl, hs, by decide, by omega, fun ν1 u e hν1 hu hur hul => ⟨rfl, ?_⟩⟩⟩⟩)⟩)⟩)⟩))))
    have hul2 := hu.len
    have hei := path_rooms hs (by rw [hur]; exact hrm) hu.path
    refine r_cons (s_if (qt_cv (c_eqI (q_call G__law_draw (hr.mono (by decide)) (qa_cons (q_v 0 ⟨_, rfl, qa_cons (q_int (qa_nil ⟨rfl, ⟨_, rfl, by omega, by omega, fun ν2 r hν2 hr2 => ⟨_, rfl, q_int ⟨_, rfl, ⟨_, rfl, ⟨fun hb => ?_, fun hb => ?_⟩⟩⟩⟩⟩⟩))⟩))))))
    · have hbk := bk_ok hu
      refine r_cons (s_set 5 ok (q_call G__law_back (hr.mono (by decide)) (qa_cons (q_v 1 ⟨_, rfl, qa_cons (q_v 4 ⟨_, rfl, qa_nil ⟨rfl, ⟨_, _, e, rfl, hu, by omega, ⟨rfl, ?_⟩⟩⟩⟩)⟩))))
      refine r_cons (s_set 6 ok (q_toTup B.tuple (q_lc ok (qc1W 8 ok (qi_tup (q_ix (q_v 5 ⟨_, rfl, ⟨_, rfl, q_int ⟨_, _, rfl, rfl, ⟨_, rfl, ⟨trivial, ?_, fun i ν' acc => ν' ≤ ν2 + i ∧ i ≤ 4 ∧ ∃ ns : List Int, acc = ns.map PyData.int ∧ ns.length = i, ⟨by omega, by omega, [], rfl, rfl⟩, fun i ν' d acc hd iv hla gh s H C cl fp => ?_, fun ν' acc iv p => ⟨_, rfl, ⟨rfl, ?_⟩⟩⟩⟩⟩⟩⟩))) (hg := (fun _ _ _ _ _ => pg_name ok.nd rfl (.inl rfl)))))))
      · have := hbk.len
        have : (u.bk e).passes.length = u.passes.length := by unfold Walk.bk; simp
        rw [List.length_map]
        omega
      · obtain ⟨hν', hi4, ns, rfl, hnl⟩ := iv
        obtain ⟨x, hx, rfl⟩ := getMap hd
        have hil := (List.getElem?_eq_some_iff.mp hx).1
        have : (u.bk e).pulls.length ≤ 4 := by
          have := hbk.len
          have : (u.bk e).passes.length = u.passes.length := by unfold Walk.bk; simp
          omega
        refine q_add (q_v 8 ⟨_, rfl, ⟨_, rfl, q_call G__law_pick (hr.mono (by decide)) (qa_cons (q_v 0 ⟨_, rfl, qa_cons (q_lst (qa_cons (q_int (qa_cons (q_int (qa_cons (q_int (qa_cons (q_int (qa_cons (q_neg (q_int ⟨_, rfl, qa_cons (q_int (qa_nil ⟨_, rfl, by simp, fun p => qa_nil ⟨rfl, ⟨_, rfl, by simp, by omega, fun ν3 d3 hν3 hd3 => ?_⟩⟩⟩))⟩))))))))))))⟩))⟩⟩)
        obtain ⟨b, rfl⟩ : ∃ b : Int, d3 = .int b := by
          have hd3 : d3 ∈ ([.int 0, .int 0, .int 0, .int 1, .int (-1), .int 2] : List D) := hd3
          simp only [List.mem_cons, List.not_mem_nil, or_false] at hd3
          rcases hd3 with rfl | rfl | rfl | rfl | rfl | rfl <;> exact ⟨_, rfl⟩
        refine ⟨_, rfl, _, rfl, by omega, by omega, ns ++ [x + b], ?_, by simp [hnl]⟩
        rw [List.map_append]
        rfl
      · obtain ⟨hν', hi4, ns, rfl, hnl⟩ := iv
        have hnl2 : ns.length = (u.bk e).passes.length + 1 := by
          rw [hnl]
          simp only [List.length_map]
          exact hbk.len
        have hpl : (u.bk e).passes.length = u.passes.length := by unfold Walk.bk; simp
        refine r_one (s_ret (q_call G__law_joined (hr.mono (by decide)) (qa_cons (q_v 4 ⟨_, rfl, qa_cons (q_tup (qa_cons (q_ix (q_v 5 ⟨_, rfl, ⟨_, rfl, q_int ⟨_, _, rfl, rfl, qa_cons (q_v 6 ⟨_, rfl, qa_cons (q_ix (q_v 5 ⟨_, rfl, ⟨_, rfl, q_int ⟨_, _, rfl, rfl, qa_nil ⟨_, rfl, by simp, qa_nil ⟨rfl, ⟨u, ⟨(u.bk e).room, ns, (u.bk e).passes⟩, rfl, ⟨hul2, hnl2⟩, ⟨by omega, by rw [hpl]; omega⟩, ⟨rfl, ?_⟩⟩⟩⟩⟩⟩⟩))⟩)⟩⟩⟩))))⟩))))
        refine hk _ (u.join ⟨(u.bk e).room, ns, (u.bk e).passes⟩) (by omega) ?_ hur ?_
        · have := hbk.path
          rw [hur] at this
          exact join_ok hu ⟨hnl2, this⟩ rfl
        · show (u.passes ++ (u.bk e).passes).length ≤ 6
          rw [List.length_append, hpl]
          omega
    · refine r_nil ?_
      refine r_cons (s_set 7 ok (q_call G__law_end (hr.mono (by decide)) (qa_cons (q_v 1 ⟨_, rfl, qa_cons (q_v 4 ⟨_, rfl, qa_nil ⟨rfl, ⟨_, _, e, rfl, hu, ⟨rfl, ?_⟩⟩⟩⟩)⟩))))
      refine r_one (s_ret (q_call G__law_joined (hr.mono (by decide)) (qa_cons (q_v 4 ⟨_, rfl, qa_cons (q_call G__law_bare (hr.mono (by decide)) (qa_cons (q_v 1 ⟨_, rfl, qa_cons (q_v 7 ⟨_, rfl, qa_cons (q_call G__law_way (hr.mono (by decide)) (qa_cons (q_v 1 ⟨_, rfl, qa_cons (q_v 7 ⟨_, rfl, qa_cons (q_v 2 ⟨_, rfl, qa_nil ⟨rfl, ⟨rooms, ds, e, room, rfl, hs, hc, hei, hrm, fun es hp hl => qa_nil ⟨rfl, ⟨_, e, es, rfl, by omega, qa_nil ⟨rfl, ⟨u, ⟨e, List.replicate (es.length + 1) 0, es⟩, rfl, ⟨hul2, List.length_replicate⟩, ⟨by omega, show es.length ≤ 200 by omega⟩, ⟨rfl, ?_⟩⟩⟩⟩⟩⟩⟩⟩)⟩)⟩)))⟩)⟩)))⟩))))
      refine hk _ (u.join ⟨e, List.replicate (es.length + 1) 0, es⟩) (by omega) (join_ok hu ⟨List.length_replicate, hp⟩ rfl) hur ?_
      show (u.passes ++ es).length ≤ 6
      rw [List.length_append]
      omega
end
end PF


set_option maxHeartbeats 4000000
/-! D26 -/
namespace PF
open PySem PySem.Spec PyProof.Rows L2 QL PR
section
variable {P : Program} {w : World} {K : PySem.W.Frag} {mg : Str → Option Value} {base : Heap} {C : Addr}
/-! ### _law_ak_round -/
abbrev s__law_ak_round : Stmt := topS 113
theorem sc__law_ak_round : FnScope ["_law_state", "_law_doors_here", "_law_room_here", "_law_many", "_law_here", "_law_pulls_here", "_law_steps_here", "_law_turn", "_law_some", "_law_step", "_law_out"] ["_law_state", "_law_doors_here", "_law_room_here", "_law_many"] (defScope s__law_ak_round) := ⟨rfl, rfl, rfl, by decide +kernel, rfl, by decide +kernel, by decide +kernel⟩
def sp__law_ak_round : Spc := fun ν as k => ∃ rooms ds room, as = [.s, .d (eDs ds), .d (eI room), .d (eI 4)] ∧ Hs rooms ds ∧ Cn rooms ds ∧ (0 ≤ room ∧ room < rooms) ∧ ν + 200 ≤ 1000000000 ∧ ∀ (ν' : Nat) (u : Walk), ν' ≤ ν + 200 → WOk ds u room → u.room = room → u.passes.length ≤ 6 → k ν' (.d (eW u))
theorem ok__law_ak_round (A : At K mg "_law_ak_round" s__law_ak_round) (B : Bi mg) (T : Tx K mg C) (HF : HouseF K C) (G__law_bare : FnG P w K mg base C 1 "_law_bare" ["_law_doors_here", "_law_room_here", "_law_steps_here"] sp__law_bare) (G__law_draw : FnG P w K mg base C 2 "_law_draw" ["_law_state", "_law_size_here"] sp__law_draw) (G__law_gate : FnG P w K mg base C 1 "_law_gate" ["_law_doors_here", "_law_step"] sp__law_gate) (G__law_joined : FnG P w K mg base C 1 "_law_joined" ["_law_one", "_law_other"] sp__law_joined) (G__law_pick : FnG P w K mg base C 3 "_law_pick" ["_law_state", "_law_several"] sp__law_pick) (G__law_steps : FnG P w K mg base C 2 "_law_steps" ["_law_doors_here", "_law_room_here"] sp__law_steps) (G__law_way : FnG P w K mg base C 3 "_law_way" ["_law_doors_here", "_law_start", "_law_goal"] sp__law_way) : FnG P w K mg base C 4 "_law_ak_round" ["_law_state", "_law_doors_here", "_law_room_here", "_law_many"] sp__law_ak_round := by
  refine def_g (lev := 3) A sc__law_ak_round (fun _ _ _ _ _ _ us hl => match us, hl with | [_, _, _, _], _ => rfl) (fun ν as k h => ?_) fun f cdv A outer s H E st hr W hW ok ν as k h => ?_
  · obtain ⟨rooms, ds, room, rfl, hs, hc, hrm, hν, hk⟩ := h
    rfl
  · obtain ⟨rooms, ds, room, rfl, hs, hc, hrm, hν, hk⟩ := h
    subst hW
    have hz := hs.nz
    have hdl := hs.len
    refine r_cons (s_par3 4 5 6 ok (qa_cons (q_v 2 ⟨_, rfl, qa_cons (q_lst (qa_cons (q_sub (q_call G__law_draw (hr.mono (by decide)) (qa_cons (q_v 0 ⟨_, rfl, qa_cons (q_int (qa_nil ⟨rfl, ⟨_, rfl, by omega, by omega, fun ν0 r0 hν0 hr0 => ⟨_, rfl, q_int ⟨_, rfl, qa_nil ⟨_, rfl, by simp, fun p => qa_cons (q_lst (qa_nil ⟨_, rfl, by simp, fun q => qa_nil ⟨_, _, _, rfl, rfl, rfl, rfl, ?_⟩⟩))⟩⟩⟩⟩⟩))⟩))))))⟩)))
    refine r_cons (s_forW 7 ok (qi_range1 B.range (q_add (q_int ⟨_, rfl, q_call G__law_draw (hr.mono (by decide)) (qa_cons (q_v 0 ⟨_, rfl, qa_cons (q_v 3 ⟨_, rfl, qa_nil ⟨rfl, ⟨_, rfl, by omega, by omega, fun ν1 r hν1 hr1 => ⟨_, rfl, ⟨(r.toNat + 1 : Nat), by rw [show ((r.toNat + 1 : Nat) : Int) = 1 + r by omega], by omega, ⟨fun _ => trivial, fun i ν' Γ => ∃ (here : Int) (pulls : List Int) (es : List Pass) (x7 x8 x9 x10 : Option Sl), Path ds room es here ∧ pulls.length = es.length + 1 ∧ es.length ≤ i ∧ i ≤ r.toNat + 1 ∧ ν' ≤ ν + 2 + 4 * i ∧ Γ = [some .s, some (.d (eDs ds)), some (.d (eI room)), some (.d (eI 4)), some (.d (eI here)), some (.o p (pulls.map PyData.int)), some (.o q (es.map eP)), x7, x8, x9, x10], ⟨room, [r0 - 2], [], _, _, _, _, rfl, rfl, by simp, by omega, by omega, rfl⟩, fun i ν' d Γ hd iv gh => ?_, fun ν' Γ iv => ?_⟩⟩⟩⟩⟩⟩)⟩))⟩))))
    · obtain ⟨here, pulls, es, x7, x8, x9, x10, hp, hpl, hel, hi, hν', rfl⟩ := iv
      have hi2 : i < r.toNat + 1 := by
        have := (List.getElem?_eq_some_iff.mp hd).1
        simp at this
        omega
      refine r_cons (s_set 8 (ok.push gh) (q_call G__law_steps (hr.mono (by decide)) (qa_cons (q_v 1 ⟨_, rfl, qa_cons (q_v 4 ⟨_, rfl, qa_nil ⟨rfl, ⟨ds, here, rfl, by omega, fun p8 => ⟨rfl, ?_⟩⟩⟩⟩)⟩))))
      refine r_one (s_if (qt_cv (c_neNl (q_v 8 ⟨_, rfl, ⟨_, rfl, Lows.h, ⟨_, rfl, ⟨fun hb => ?_, fun hb => ?_⟩⟩⟩⟩) (ok.push gh))))
      · have hne : 0 < (stepsL ds here).length := by
          cases h : stepsL ds here with
          | nil =>
            rw [h] at hb
            cases hb
          | cons => simp
        have hsl := steps_len ds here
        refine r_cons (s_set 9 (ok.push gh) (q_call G__law_pick (hr.mono (by decide)) (qa_cons (q_v 0 ⟨_, rfl, qa_cons (q_v 8 ⟨_, rfl, qa_nil ⟨rfl, ⟨_, rfl, by rw [List.length_map]; omega, by omega, fun ν2 d2 hν2 hd2 => ?_⟩⟩⟩)⟩))))
        obtain ⟨e, he, rfl⟩ := List.mem_map.mp hd2
        have he := mem_steps.mp he
        refine ⟨rfl, ?_⟩
        refine r_mid (fun ν3 Γ' => ν3 = ν2 ∧ ∃ pulls2 : List Int, pulls2.length = pulls.length ∧ Γ' = [some .s, some (.d (eDs ds)), some (.d (eI room)), some (.d (eI 4)), some (.d (eI here)), some (.o p (pulls2.map PyData.int)), some (.o q (es.map eP)), some (.d d), some (.o p8 ((stepsL ds here).map eP)), some (.d (eP e)), x10]) (s_if (qt_w (qw_and (qt_cv (c_neNl (q_v 6 ⟨_, rfl, ⟨_, rfl, Lows.h, ⟨_, rfl, ⟨fun hb2 => ?_, fun hb2 => ⟨fun hb => (nomatch hb), fun hb => ?_⟩⟩⟩⟩⟩) (ok.push gh)))))) ?_
        · have hen : es ≠ [] := by
            intro h
            rw [h] at hb2
            cases hb2
          have hpn : pulls ≠ [] := ne_nil_of hpl
          obtain ⟨es', l, rfl⟩ : ∃ es' l, es = es' ++ [l] := ⟨_, _, (List.dropLast_concat_getLast hen).symm⟩
          have hq := hp.snoc_inv
          have hlast : (es' ++ [l]).getLastD (0, 0) = l := List.getLastD_concat
          refine qw_and1 (qt_cv (c_eqP (q_v 9 ⟨_, rfl, ⟨_, rfl, Low.h, q_tup (qa_cons (q_ix (q_ixL (q_v 6 ⟨_, rfl, ⟨_, rfl, q_neg (q_int ⟨_, rfl, ⟨_, _, rfl, atI_lastD hen (0, 0), ⟨_, rfl, q_int ⟨_, _, rfl, rfl, qa_cons (q_sub (q_int ⟨_, rfl, q_ix (q_ixL (q_v 6 ⟨_, rfl, ⟨_, rfl, q_neg (q_int ⟨_, rfl, ⟨_, _, rfl, atI_lastD hen (0, 0), ⟨_, rfl, q_int ⟨_, _, rfl, rfl, ⟨_, rfl, qa_nil ⟨_, rfl, by simp, ⟨_, rfl, Low.h, ⟨_, rfl, ⟨fun hb3 => ?_, fun hb3 => ?_⟩⟩⟩⟩⟩⟩⟩⟩⟩)⟩⟩))⟩))⟩⟩⟩⟩)⟩⟩))))⟩⟩) (ok.push gh)))
          · have hg := gate_dok hs hq.2.1
            have hd0 : ar ds l ≠ 0 := ar_ne hz l
            refine r_one (s_if (qt_cv (c_eqI (q_mod (q_toInt B.int (q_ixL (q_v 5 ⟨_, rfl, ⟨_, rfl, q_neg (q_int ⟨_, rfl, ⟨_, _, rfl, atI_lastD hpn 0, ⟨_, rfl, ⟨_, rfl, q_abs B.abs (q_ix (q_call G__law_gate (hr.mono (by decide)) (qa_cons (q_v 1 ⟨_, rfl, qa_cons (q_ixL (q_v 6 ⟨_, rfl, ⟨_, rfl, q_neg (q_int ⟨_, rfl, ⟨_, _, rfl, atI_lastD hen (0, 0), qa_nil ⟨rfl, ⟨_, _, rfl, by rw [hlast]; exact hq.2.1, ⟨_, rfl, q_int ⟨_, _, rfl, rfl, ⟨_, rfl, ⟨_, rfl, ?_, ⟨_, rfl, q_int ⟨_, rfl, ⟨_, rfl, ⟨fun hb4 => ?_, fun hb4 => ?_⟩⟩⟩⟩⟩⟩⟩⟩⟩⟩⟩⟩)⟩⟩))⟩))))⟩⟩⟩⟩)⟩⟩)))))))
            · rw [hlast]
              have hd1 : (gate ds l).2.2.2 ≠ 0 := hd0
              split <;> omega
            · refine r_one (s_setItem 5 (ok.push gh) rfl (q_add (q_ixL (q_v 5 ⟨_, rfl, ⟨_, rfl, q_neg (q_int ⟨_, rfl, ⟨_, _, rfl, atI_lastD hpn 0, ⟨_, rfl, q_int ⟨_, rfl, ⟨_, rfl, q_neg (q_int ⟨_, rfl, ⟨_, pulls.length - 1, rfl, ?_, ?_⟩⟩)⟩⟩⟩⟩⟩)⟩⟩))))
              · rw [List.length_map, ixN_neg1 (by omega)]
              · refine ⟨rfl, pulls.set (pulls.length - 1) (pulls.getLastD 0 + 1), by simp, ?_⟩
                rw [List.map_set]
                rfl
            · exact r_nil ⟨rfl, pulls, rfl, rfl⟩
          · exact r_nil ⟨rfl, pulls, rfl, rfl⟩
        · exact r_nil ⟨rfl, pulls, rfl, rfl⟩
        · rintro ν3 Γ' ⟨rfl, pulls2, hp2, rfl⟩
          refine r_cons (s_append 6 rfl (q_v 9 ⟨_, rfl, ⟨_, rfl, by rw [List.length_map]; omega, ?_⟩⟩))
          refine r_cons (s_append 5 rfl (q_sub (q_call G__law_draw (hr.mono (by decide)) (qa_cons (q_v 0 ⟨_, rfl, qa_cons (q_int (qa_nil ⟨rfl, ⟨_, rfl, by omega, by omega, fun ν4 r4 hν4 hr4 => ⟨_, rfl, q_int ⟨_, rfl, ⟨_, rfl, by rw [List.length_map]; omega, ?_⟩⟩⟩⟩⟩))⟩)))))
          refine r_one (s_set 4 (ok.push gh) (q_ix (q_call G__law_gate (hr.mono (by decide)) (qa_cons (q_v 1 ⟨_, rfl, qa_cons (q_v 9 ⟨_, rfl, qa_nil ⟨rfl, ⟨_, _, rfl, he.1, ⟨_, rfl, q_int ⟨_, _, rfl, rfl, ⟨rfl, ?_⟩⟩⟩⟩⟩⟩)⟩)))))
          refine ⟨dst ds e, pulls2 ++ [r4 - 2], es ++ [e], some (.d d), some (.o p8 ((stepsL ds here).map eP)), some (.d (eP e)), x10, hp.snoc he.1 he.2, by simp; omega, by simp; omega, by omega, by omega, ?_⟩
          rw [List.map_append, List.map_append]
          rfl
      · exact r_nil ⟨here, pulls, es, _, _, _, _, hp, hpl, by omega, by omega, by omega, rfl⟩
    · obtain ⟨here, pulls, es, x7, x8, x9, x10, hp, hpl, hel, hi, hν', rfl⟩ := iv
      have hi4 : es.length ≤ 4 := by omega
      have hei := path_rooms hs hrm hp
      refine r_cons (s_set 10 ok (q_tup (qa_cons (q_v 2 ⟨_, rfl, qa_cons (q_toTup B.tuple (q_v 5 ⟨_, rfl, ⟨_, rfl, qa_cons (q_toTup B.tuple (q_v 6 ⟨_, rfl, ⟨_, rfl, qa_nil ⟨_, rfl, by simp, ⟨rfl, ?_⟩⟩⟩⟩))⟩⟩))⟩))))
      refine r_one (s_ret (q_call G__law_joined (hr.mono (by decide)) (qa_cons (q_v 10 ⟨_, rfl, qa_cons (q_call G__law_bare (hr.mono (by decide)) (qa_cons (q_v 1 ⟨_, rfl, qa_cons (q_v 4 ⟨_, rfl, qa_cons (q_call G__law_way (hr.mono (by decide)) (qa_cons (q_v 1 ⟨_, rfl, qa_cons (q_v 4 ⟨_, rfl, qa_cons (q_v 2 ⟨_, rfl, qa_nil ⟨rfl, ⟨rooms, ds, here, room, rfl, hs, hc, hei, hrm, fun fs hp2 hl => qa_nil ⟨rfl, ⟨_, here, fs, rfl, by omega, qa_nil ⟨rfl, ⟨⟨room, pulls, es⟩, ⟨here, List.replicate (fs.length + 1) 0, fs⟩, rfl, ⟨hpl, List.length_replicate⟩, ⟨show es.length ≤ 200 by omega, show fs.length ≤ 200 by omega⟩, ⟨rfl, ?_⟩⟩⟩⟩⟩⟩⟩⟩)⟩)⟩)))⟩)⟩)))⟩))))
      refine hk _ ((⟨room, pulls, es⟩ : Walk).join ⟨here, List.replicate (fs.length + 1) 0, fs⟩) (by omega) (join_ok (show WOk ds ⟨room, pulls, es⟩ here from ⟨hpl, hp⟩) ⟨List.length_replicate, hp2⟩ rfl) rfl ?_
      show (es ++ fs).length ≤ 6
      rw [List.length_append]
      omega
end
end PF


set_option maxHeartbeats 4000000
/-! D27 -/
namespace PF
open PySem PySem.Spec PyProof.Rows L2 QL PR
theorem low_Dos : ∀ ds : List Door, lowDs 9 (ds.map eDo) = true
  | [] => rfl
  | d :: ds => by
    rw [List.map_cons, lowDs_cons, low_Dos ds]
    rfl
theorem perm_map {α : Type} {f : α → D} : ∀ {xs : List α} {ys : List D}, ys.Perm (xs.map f) → ∃ zs : List α, zs.Perm xs ∧ ys = zs.map f := by
  intro xs ys h
  generalize hz : xs.map f = zs at h
  induction h generalizing xs with
  | nil =>
    cases xs with
    | nil => exact ⟨[], .nil, rfl⟩
    | cons x xs => cases hz
  | cons a _ ih =>
    cases xs with
    | nil => cases hz
    | cons x xs =>
      injection hz with h1 h2
      obtain ⟨zs, h3, h4⟩ := ih h2
      exact ⟨x :: zs, h3.cons x, by rw [List.map_cons, h1, h4]⟩
  | swap a b l =>
    cases xs with
    | nil => cases hz
    | cons x xs =>
      cases xs with
      | nil => injection hz with h1 h2; cases h2
      | cons y xs =>
        injection hz with h1 h2
        injection h2 with h3 h4
        exact ⟨y :: x :: xs, .swap x y xs, by rw [List.map_cons, List.map_cons, h1, h3, h4]⟩
  | trans _ _ ih1 ih2 =>
    obtain ⟨zs, h1, h2⟩ := ih2 hz
    obtain ⟨ws, h3, h4⟩ := ih1 h2.symm
    exact ⟨ws, h3.trans h1, h4⟩
section
variable {P : Program} {w : World} {K : PySem.W.Frag} {mg : Str → Option Value} {base : Heap} {C : Addr}
/-! ### _law_ak_home -/
abbrev s__law_ak_home : Stmt := topS 114
theorem sc__law_ak_home : FnScope ["_law_state", "_law_doors_here", "_law_room_here", "_law_many"] ["_law_state", "_law_doors_here", "_law_room_here", "_law_many"] (defScope s__law_ak_home) := ⟨rfl, rfl, rfl, by decide +kernel, rfl, by decide +kernel, by decide +kernel⟩
def sp__law_ak_home : Spc := fun ν as k => ∃ rooms ds room, as = [.s, .d (eDs ds), .d (eI room), .d (eI 3)] ∧ Hs rooms ds ∧ Cn rooms ds ∧ (0 ≤ room ∧ room < rooms) ∧ ν + 300 ≤ 1000000000 ∧ ∀ (ν' : Nat) (u : Walk), ν' ≤ ν + 300 → WOk ds u room → u.room = room → u.passes.length ≤ 6 → k ν' (.d (eW u))
theorem ok__law_ak_home (A : At K mg "_law_ak_home" s__law_ak_home) (B : Bi mg) (T : Tx K mg C) (HF : HouseF K C) (G__law_ak_round : FnG P w K mg base C 4 "_law_ak_round" ["_law_state", "_law_doors_here", "_law_room_here", "_law_many"] sp__law_ak_round) (G__law_draw : FnG P w K mg base C 2 "_law_draw" ["_law_state", "_law_size_here"] sp__law_draw) (G__law_homing : FnG P w K mg base C 5 "_law_homing" ["_law_state", "_law_doors_here", "_law_room_here", "_law_many"] sp__law_homing) : FnG P w K mg base C 6 "_law_ak_home" ["_law_state", "_law_doors_here", "_law_room_here", "_law_many"] sp__law_ak_home := by
  refine def_g (lev := 5) A sc__law_ak_home (fun _ _ _ _ _ _ us hl => match us, hl with | [_, _, _, _], _ => rfl) (fun ν as k h => ?_) fun f cdv A outer s H E st hr W hW ok ν as k h => ?_
  · obtain ⟨rooms, ds, room, rfl, hs, hc, hrm, hν, hk⟩ := h
    rfl
  · obtain ⟨rooms, ds, room, rfl, hs, hc, hrm, hν, hk⟩ := h
    subst hW
    refine r_cons (s_if (qt_cv (c_eqI (q_call G__law_draw (hr.mono (by decide)) (qa_cons (q_v 0 ⟨_, rfl, qa_cons (q_int (qa_nil ⟨rfl, ⟨_, rfl, by omega, by omega, fun ν1 r hν1 hr1 => ⟨_, rfl, q_int ⟨_, rfl, ⟨_, rfl, ⟨fun hb => ?_, fun hb => ?_⟩⟩⟩⟩⟩⟩))⟩))))))
    · exact r_one (s_ret (q_call G__law_homing (hr.mono (by decide)) (qa_cons (q_v 0 ⟨_, rfl, qa_cons (q_v 1 ⟨_, rfl, qa_cons (q_v 2 ⟨_, rfl, qa_cons (q_v 3 ⟨_, rfl, qa_nil ⟨rfl, ⟨rooms, ds, room, rfl, hs, hc, hrm, by omega, fun ν2 u h1 h2 h3 h4 => ⟨rfl, hk ν2 u (by omega) h2 h3 h4⟩⟩⟩⟩)⟩)⟩)⟩))))
    · refine r_nil ?_
      exact r_one (s_ret (q_call G__law_ak_round (hr.mono (by decide)) (qa_cons (q_v 0 ⟨_, rfl, qa_cons (q_v 1 ⟨_, rfl, qa_cons (q_v 2 ⟨_, rfl, qa_cons (q_add (q_v 3 ⟨_, rfl, ⟨_, rfl, q_int ⟨_, rfl, qa_nil ⟨rfl, ⟨rooms, ds, room, rfl, hs, hc, hrm, by omega, fun ν2 u h1 h2 h3 h4 => ⟨rfl, hk ν2 u (by omega) h2 h3 h4⟩⟩⟩⟩⟩⟩))⟩)⟩)⟩))))
/-! ### _law_ak_doors -/
abbrev s__law_ak_doors : Stmt := topS 103
theorem sc__law_ak_doors : FnScope ["_law_state", "_law_rooms_here", "_law_more", "_law_found", "_law_room_here", "_law_many", "_law_turn", "_law_near_here", "_law_far_here"] ["_law_state", "_law_rooms_here", "_law_more"] (defScope s__law_ak_doors) := ⟨rfl, rfl, rfl, by decide +kernel, rfl, by decide +kernel, by decide +kernel⟩
def sp__law_ak_doors : Spc := fun ν as k => ∃ rooms : Int, as = [.s, .d (eI rooms), .d (eI 3)] ∧ (1 ≤ rooms ∧ rooms ≤ 3) ∧ ν + 500 ≤ 1000000000 ∧ ∀ (ν' : Nat) (ds : List Door), ν' ≤ ν + 500 → Hs rooms ds → Cn rooms ds → k ν' (.d (eDs ds))
theorem ok__law_ak_doors (A : At K mg "_law_ak_doors" s__law_ak_doors) (B : Bi mg) (T : Tx K mg C) (HF : HouseF K C) (G__law_ak_size : FnG P w K mg base C 4 "_law_ak_size" ["_law_state"] sp__law_ak_size) (G__law_draw : FnG P w K mg base C 2 "_law_draw" ["_law_state", "_law_size_here"] sp__law_draw) (G__law_mixed : FnG P w K mg base C 3 "_law_mixed" ["_law_state", "_law_several"] sp__law_mixed) : FnG P w K mg base C 5 "_law_ak_doors" ["_law_state", "_law_rooms_here", "_law_more"] sp__law_ak_doors := by
  refine def_g (lev := 4) A sc__law_ak_doors (fun _ _ _ _ _ _ us hl => match us, hl with | [_, _, _], _ => rfl) (fun ν as k h => ?_) fun f cdv A outer s H E st hr W hW ok ν as k h => ?_
  · obtain ⟨rooms, rfl, hrm, hν, hk⟩ := h
    rfl
  · obtain ⟨rooms, rfl, hrm, hν, hk⟩ := h
    subst hW
    refine r_cons (s_set 3 ok (q_lst (qa_nil ⟨_, rfl, by simp, fun p => ⟨rfl, ?_⟩⟩)))
    refine r_cons (s_forW 4 ok (qi_range2 B.range (q_int ⟨_, rfl, q_v 1 ⟨_, rfl, ⟨_, rfl, by omega, ⟨fun _ => trivial, fun i ν' Γ => ∃ (ds : List Door) (x4 x5 x6 x7 x8 : Option Sl), ds.length = i ∧ (i : Int) ≤ rooms - 1 ∧ ν' ≤ ν + 10 * i ∧ (∀ d, d ∈ ds → DOk rooms d) ∧ (∀ r : Int, 1 ≤ r → r < i + 1 → ∃ d, d ∈ ds ∧ (0 ≤ d.1 ∧ d.1 < r) ∧ d.2.2.1 = r) ∧ Γ = [some .s, some (.d (eI rooms)), some (.d (eI 3)), some (.o p (ds.map eDo)), x4, x5, x6, x7, x8], ⟨[], _, _, _, _, _, rfl, by omega, by omega, fun d h => (nomatch h), fun r h1 h2 => by omega, rfl⟩, fun i ν' d Γ hd iv gh => ?_, fun ν' Γ iv => ?_⟩⟩⟩⟩)))
    · obtain ⟨ds, x4, x5, x6, x7, x8, hl, hi, hν', hdk, hcn, rfl⟩ := iv
      obtain ⟨j, hj, rfl⟩ := getMap hd
      obtain ⟨hjl, rfl⟩ : i < (rooms - 1).toNat ∧ j = i := by
        have h1 := (List.getElem?_eq_some_iff.mp hj).1
        rw [List.length_range] at h1
        rw [List.getElem?_range h1] at hj
        exact ⟨h1, (Option.some.inj hj).symm⟩
      refine r_one (s_append 3 rfl (q_tup (qa_cons (q_call G__law_draw (hr.mono (by decide)) (qa_cons (q_v 0 ⟨_, rfl, qa_cons (q_v 4 ⟨_, rfl, qa_nil ⟨rfl, ⟨_, rfl, by omega, by omega, fun ν1 r hν1 hr1 => qa_cons (q_call G__law_ak_size (hr.mono (by decide)) (qa_cons (q_v 0 ⟨_, rfl, qa_nil ⟨rfl, ⟨rfl, by omega, fun ν2 a hν2 ha => qa_cons (q_v 4 ⟨_, rfl, qa_cons (q_call G__law_ak_size (hr.mono (by decide)) (qa_cons (q_v 0 ⟨_, rfl, qa_nil ⟨rfl, ⟨rfl, by omega, fun ν3 b hν3 hb => qa_nil ⟨_, rfl, by simp, ⟨_, rfl, by rw [List.length_map]; omega, ?_⟩⟩⟩⟩⟩)))⟩)⟩⟩⟩)))⟩⟩⟩)⟩))))))
      refine ⟨ds ++ [(r, a, 1 + (j : Int), b)], some (.d (.int (1 + (j : Int)))), x5, x6, x7, x8, by simp [hl], by omega, by omega, fun d hd => ?_, fun q h1 h2 => ?_, ?_⟩
      · rcases List.mem_append.mp hd with hd | hd
        · exact hdk d hd
        · obtain rfl : d = (r, a, 1 + (j : Int), b) := by simpa using hd
          exact ⟨⟨hr1.1, by show r < rooms; omega⟩, ⟨by show (0 : Int) ≤ 1 + (j : Int); omega, by show 1 + (j : Int) < rooms; omega⟩, ha, hb⟩
      · by_cases h : q < (j : Int) + 1
        · obtain ⟨d, hd, h3⟩ := hcn q h1 h
          exact ⟨d, List.mem_append_left _ hd, h3⟩
        · have : q = 1 + (j : Int) := by omega
          subst this
          exact ⟨_, List.mem_append_right _ (List.mem_singleton.mpr rfl), ⟨hr1.1, hr1.2⟩, rfl⟩
      · rw [List.map_append]
        rfl
    · obtain ⟨ds, x4, x5, x6, x7, x8, hl, hi, hν', hdk, hcn, rfl⟩ := iv
      rw [List.length_map, List.length_range] at hl hi hν' hcn
      have hcn2 : ∀ r : Int, 1 ≤ r → r < rooms → ∃ d, d ∈ ds ∧ (0 ≤ d.1 ∧ d.1 < r) ∧ d.2.2.1 = r := fun r h1 h2 => hcn r h1 (by omega)
      clear hcn
      refine r_cons (s_set 5 ok (q_call G__law_draw (hr.mono (by decide)) (qa_cons (q_v 0 ⟨_, rfl, qa_cons (q_add (q_v 2 ⟨_, rfl, ⟨_, rfl, q_int ⟨_, rfl, qa_nil ⟨rfl, ⟨_, rfl, by omega, by omega, fun ν1 m hν1 hm1 => ⟨rfl, ?_⟩⟩⟩⟩⟩⟩))⟩))))
      refine r_mid (fun ν2 Γ' => ν2 ≤ ν' + 2 ∧ ∃ (n : Nat) (x4 x6 x7 x8 : Option Sl), n ≤ 3 ∧ Γ' = [some .s, some (.d (eI rooms)), some (.d (eI 3)), some (.o p (ds.map eDo)), x4, some (.d (eI n)), x6, x7, x8]) (s_set 5 ok (q_ife (qt_w (qw_and (qt_cv (c_eqI (q_v 1 ⟨_, rfl, ⟨_, rfl, q_int ⟨_, rfl, ⟨_, rfl, ⟨fun hb => qw_and (qt_cv (c_eqI (q_v 5 ⟨_, rfl, ⟨_, rfl, q_int ⟨_, rfl, ⟨_, rfl, ⟨fun hb => qw_and1 (qt_cv (c_gt (q_call G__law_draw (hr.mono (by decide)) (qa_cons (q_v 0 ⟨_, rfl, qa_cons (q_int (qa_nil ⟨rfl, ⟨_, rfl, by omega, by omega, fun ν2 r2 hν2 hr2 => ⟨_, rfl, q_int ⟨_, rfl, ⟨_, rfl, ⟨fun hb => q_int ⟨rfl, ?_⟩, fun hb => q_v 5 ⟨_, rfl, ⟨rfl, ?_⟩⟩⟩⟩⟩⟩⟩⟩))⟩))))), fun hb => ⟨fun hb => (nomatch hb), fun hb => q_v 5 ⟨_, rfl, ⟨rfl, ?_⟩⟩⟩⟩⟩⟩⟩⟩))), fun hb => ⟨fun hb => (nomatch hb), fun hb => q_v 5 ⟨_, rfl, ⟨rfl, ?_⟩⟩⟩⟩⟩⟩⟩⟩))))))) ?_
      · exact ⟨by omega, 1, x4, x6, x7, x8, by omega, rfl⟩
      · exact ⟨by omega, m.toNat, x4, x6, x7, x8, by omega, by rw [Int.toNat_of_nonneg hm1.1]; rfl⟩
      · exact ⟨by omega, m.toNat, x4, x6, x7, x8, by omega, by rw [Int.toNat_of_nonneg hm1.1]; rfl⟩
      · exact ⟨by omega, m.toNat, x4, x6, x7, x8, by omega, by rw [Int.toNat_of_nonneg hm1.1]; rfl⟩
      rintro ν2 Γ' ⟨hν2, n, x4, x6, x7, x8, hn, rfl⟩
      refine r_cons (s_forW 6 ok (qi_range1 B.range (q_v 5 ⟨_, rfl, ⟨n, rfl, by omega, ⟨fun _ => trivial, fun i ν' Γ => ∃ (fs : List Door) (x6 x7 x8 : Option Sl), fs.length = i ∧ i ≤ n ∧ ν' ≤ ν2 + 10 * i ∧ (∀ d, d ∈ fs → DOk rooms d) ∧ Γ = [some .s, some (.d (eI rooms)), some (.d (eI 3)), some (.o p ((ds ++ fs).map eDo)), x4, some (.d (eI n)), x6, x7, x8], ⟨[], _, _, _, rfl, by omega, by omega, fun d h => (nomatch h), by rw [List.append_nil]⟩, fun i ν' d Γ hd iv gh => ?_, fun ν' Γ iv => ?_⟩⟩⟩)))
      · obtain ⟨fs, x6, x7, x8, hfl, hin, hν3, hfk, rfl⟩ := iv
        have hi2 : i < n := by
          have := (List.getElem?_eq_some_iff.mp hd).1
          simp at this
          omega
        refine r_cons (s_par 7 8 (ok.push gh) (qa_cons (q_call G__law_draw (hr.mono (by decide)) (qa_cons (q_v 0 ⟨_, rfl, qa_cons (q_v 1 ⟨_, rfl, qa_nil ⟨rfl, ⟨_, rfl, by omega, by omega, fun ν4 r4 hν4 hr4 => qa_cons (q_call G__law_draw (hr.mono (by decide)) (qa_cons (q_v 0 ⟨_, rfl, qa_cons (q_v 1 ⟨_, rfl, qa_nil ⟨rfl, ⟨_, rfl, by omega, by omega, fun ν5 r5 hν5 hr5 => qa_nil ⟨_, _, rfl, rfl, rfl, ?_⟩⟩⟩⟩)⟩)))⟩⟩⟩)⟩)))))
        refine r_one (s_append 3 rfl (q_tup (qa_cons (q_v 7 ⟨_, rfl, qa_cons (q_call G__law_ak_size (hr.mono (by decide)) (qa_cons (q_v 0 ⟨_, rfl, qa_nil ⟨rfl, ⟨rfl, by omega, fun ν6 a hν6 ha => qa_cons (q_v 8 ⟨_, rfl, qa_cons (q_call G__law_ak_size (hr.mono (by decide)) (qa_cons (q_v 0 ⟨_, rfl, qa_nil ⟨rfl, ⟨rfl, by omega, fun ν7 b hν7 hb => qa_nil ⟨_, rfl, by simp, ⟨_, rfl, by rw [List.length_map, List.length_append]; omega, ?_⟩⟩⟩⟩⟩)))⟩)⟩⟩⟩)))⟩))))
        refine ⟨fs ++ [(r4, a, r5, b)], some (.d d), some (.d (eI r4)), some (.d (eI r5)), by simp [hfl], by omega, by omega, fun d hd => ?_, ?_⟩
        · rcases List.mem_append.mp hd with hd | hd
          · exact hfk d hd
          · obtain rfl : d = (r4, a, r5, b) := by simpa using hd
            exact ⟨hr4, hr5, ha, hb⟩
        · rw [← List.append_assoc, List.map_append (l₁ := ds ++ fs)]
          rfl
      · obtain ⟨fs, x6, x7, x8, hfl, hin, hν3, hfk, rfl⟩ := iv
        rw [List.length_map, List.length_range] at hfl hin hν3
        have hdl : (ds ++ fs).length ≤ 5 := by
          rw [List.length_append]
          omega
        refine r_one (s_ret (q_toTup B.tuple (q_call G__law_mixed (hr.mono (by decide)) (qa_cons (q_v 0 ⟨_, rfl, qa_cons (q_v 3 ⟨_, rfl, qa_nil ⟨rfl, ⟨_, rfl, by rw [List.length_map]; omega, low_Dos _, by omega, fun ν8 ys hν8 hys p8 => ⟨_, rfl, ⟨rfl, ?_⟩⟩⟩⟩⟩)⟩)))))
        obtain ⟨gs, hgs, rfl⟩ : ∃ gs : List Door, gs.Perm (ds ++ fs) ∧ ys = gs.map eDo := perm_map hys
        refine hk ν8 gs (by omega) ⟨hrm, by rw [hgs.length_eq]; exact hdl, fun d hd => ?_⟩ ⟨fun r h1 h2 => ?_⟩
        · rcases List.mem_append.mp (hgs.mem_iff.mp hd) with h | h
          · exact hdk d h
          · exact hfk d h
        · obtain ⟨d, hd, h3⟩ := hcn2 r h1 h2
          exact ⟨d, hgs.mem_iff.mpr (List.mem_append_left _ hd), h3⟩
end
end PF


set_option maxHeartbeats 4000000
/-! D28: the rooms that hang together -/
namespace PF
open PySem PySem.Spec PyProof.Rows L2 QL PR
def kvB (L : List Int) : List (Int × D) := L.map fun r => (r, .bool true)
theorem kvB_some {L : List Int} {r : Int} : (QL.getD (kvB L) r).isSome = decide (r ∈ L) := by
  unfold QL.getD kvB
  induction L with
  | nil => rfl
  | cons q L ih =>
    rw [List.map_cons, List.find?_cons]
    by_cases e : q = r
    · rw [decide_eq_true e, decide_eq_true (List.mem_cons.mpr (.inl e.symm))]
      rfl
    · rw [decide_eq_false e]
      rw [ih]
      simp only [List.mem_cons, decide_eq_decide]
      exact ⟨.inr, fun h => h.resolve_left fun h => e h.symm⟩
theorem kvB_put {L : List Int} {r : Int} (h : r ∉ L) : putD (kvB L) r (.bool true) = kvB (L ++ [r]) := by
  unfold putD
  have e : (kvB L).any (fun q => decide (q.1 = r)) = false := by
    rw [List.any_eq_false]
    intro q hq
    obtain ⟨p, hp, rfl⟩ := List.mem_map.mp hq
    intro e
    have e : p = r := of_decide_eq_true e
    rw [e] at hp
    exact h hp
  rw [e]
  unfold kvB
  rw [List.map_append]
  rfl
/-- the rooms known so far, the rooms whose doors are still to be looked at -/
structure Jr (rooms : Int) (ds : List Door) (Kn Ln : List Int) : Prop where
  nd : Kn.Nodup
  rng : ∀ x, x ∈ Kn → 0 ≤ x ∧ x < rooms
  zero : (0 : Int) ∈ Kn
  cl : ∀ d, d ∈ ds → (d.1 ∈ Kn → d.1 ∉ Ln → d.2.2.1 ∈ Kn) ∧ (d.2.2.1 ∈ Kn → d.2.2.1 ∉ Ln → d.1 ∈ Kn)
theorem Jr.start {rooms : Int} {ds : List Door} (h : 1 ≤ rooms) : Jr rooms ds [0] [0] := by
  refine ⟨by simp, fun x hx => ?_, by simp, fun d hd => ⟨fun h1 h2 => absurd h1 h2, fun h1 h2 => absurd h1 h2⟩⟩
  have : x = 0 := by simpa using hx
  omega
theorem Jr.next {rooms : Int} {ds : List Door} {Kn Ln X : List Int} {here : Int} (h : Jr rooms ds Kn (Ln ++ [here])) (hn : (Kn ++ X).Nodup) (hr : ∀ x, x ∈ Kn ++ X → 0 ≤ x ∧ x < rooms) (hh : ∀ d, d ∈ ds → (d.1 = here → d.2.2.1 ∈ Kn ++ X) ∧ (d.2.2.1 = here → d.1 ∈ Kn ++ X)) : Jr rooms ds (Kn ++ X) (Ln ++ X) := by
  have key : ∀ (a b : Int), (a ∈ Kn → a ∉ Ln ++ [here] → b ∈ Kn) → (a = here → b ∈ Kn ++ X) → a ∈ Kn ++ X → a ∉ Ln ++ X → b ∈ Kn ++ X := by
    intro a b h1 h2 h3 h4
    by_cases e : a = here
    · exact h2 e
    · refine List.mem_append_left _ (h1 ?_ ?_)
      · exact (List.mem_append.mp h3).resolve_right fun q => h4 (List.mem_append_right _ q)
      · intro q
        rcases List.mem_append.mp q with q | q
        · exact h4 (List.mem_append_left _ q)
        · exact e (by simpa using q)
  exact ⟨hn, hr, List.mem_append_left _ h.zero, fun d hd => ⟨key _ _ (h.cl d hd).1 (hh d hd).1, key _ _ (h.cl d hd).2 (hh d hd).2⟩⟩
theorem Jr.all {rooms : Int} {ds : List Door} {Kn : List Int} (h : Jr rooms ds Kn []) (hc : Cn rooms ds) (h1 : 1 ≤ rooms) : ∀ r, 0 ≤ r → r < rooms → r ∈ Kn := by
  intro r hr0 hr1
  refine hc.all (fun r => r ∈ Kn) (fun e he hm => ?_) h.zero ⟨by omega, by omega⟩ ⟨hr0, hr1⟩
  have hl : e.1.toNat < ds.length := by
    have := he.1
    omega
  have hd : ds.getD e.1.toNat (0, 1, 0, 1) ∈ ds := by
    rw [List.getD_eq_getElem?_getD, List.getElem?_eq_getElem hl]
    exact List.getElem_mem hl
  have hcl := h.cl _ hd
  revert hm
  show src ds e ∈ Kn → dst ds e ∈ Kn
  unfold src dst gate
  split
  · exact fun q => hcl.1 q (by simp)
  · exact fun q => hcl.2 q (by simp)
theorem Jr.few {rooms : Int} {Kn : List Int} (h3 : rooms ≤ 3) (hn : Kn.Nodup) (hr : ∀ x, x ∈ Kn → 0 ≤ x ∧ x < rooms) : Kn.length ≤ 3 := few3 (n := 3) hn fun x hx => by
  have := hr x hx
  omega
section
variable {P : Program} {w : World} {K : PySem.W.Frag} {mg : Str → Option Value} {base : Heap} {C : Addr}
/-! ### joined_rooms -/
abbrev s_joined_rooms : Stmt := topS 22
theorem sc_joined_rooms : FnScope ["doors", "known", "line", "here", "near", "first", "far", "second", "one", "other"] ["doors"] (defScope s_joined_rooms) := ⟨rfl, rfl, rfl, by decide +kernel, rfl, by decide +kernel, by decide +kernel⟩
def sp_joined_rooms : Spc := fun ν as k => ∃ rooms ds, as = [.d (eDs ds)] ∧ Hs rooms ds ∧ Cn rooms ds ∧ ∀ p (Kn : List Int), (∀ r, 0 ≤ r → r < rooms → r ∈ Kn) → k ν (.fk p (kvB Kn))
theorem ok_joined_rooms (A : At K mg "joined_rooms" s_joined_rooms) (B : Bi mg) (T : Tx K mg C) (HF : HouseF K C) : FnG P w K mg base C 1 "joined_rooms" ["doors"] sp_joined_rooms := by
  refine def_g (lev := 0) A sc_joined_rooms (fun _ _ _ _ _ _ us hl => match us, hl with | [_], _ => rfl) (fun ν as k h => ?_) fun f cdv A outer s H E st hr W hW ok ν as k h => ?_
  · obtain ⟨rooms, ds, rfl, hs, hc, hk⟩ := h
    rfl
  · obtain ⟨rooms, ds, rfl, hs, hc, hk⟩ := h
    subst hW
    have hrm := hs.rm
    refine r_cons (s_par 1 2 ok (qa_cons (q_disp1 (q_int ⟨_, rfl, q_bl ⟨_, rfl, fun p => qa_cons (q_lst (qa_cons (q_int (qa_nil ⟨_, rfl, by simp, fun q => qa_nil ⟨_, _, rfl, rfl, rfl, ?_⟩⟩))))⟩⟩))))
    refine r_cons (s_while (fun m Γ => ∃ (Kn Ln : List Int) (x3 x4 x5 x6 x7 x8 x9 : Option Sl), Jr rooms ds Kn Ln ∧ m = 2 * (3 - Kn.length) + Ln.length ∧ Ln.length ≤ Kn.length ∧ Γ = [some (.d (eDs ds)), some (.ok p (kvB Kn)), some (.o q (Ln.map PyData.int)), x3, x4, x5, x6, x7, x8, x9]) ok ⟨_, [0], [0], _, _, _, _, _, _, _, Jr.start hrm.1, rfl, by simp, rfl⟩ fun m Γ iv => ?_)
    obtain ⟨Kn, Ln, x3, x4, x5, x6, x7, x8, x9, hJ, rfl, hLK, rfl⟩ := iv
    have hfew := Jr.few hrm.2 hJ.nd hJ.rng
    refine qt_cv (c_neNl (q_v 2 ⟨_, rfl, ⟨_, rfl, Lows.h, ⟨_, rfl, ⟨rfl, fun hb => ?_, fun hb => ?_⟩⟩⟩⟩) ok)
    · have hne : Ln ≠ [] := by
        intro h
        rw [h] at hb
        cases hb
      obtain ⟨Ln', here, rfl⟩ : ∃ Ln' here, Ln = Ln' ++ [here] := ⟨_, _, (List.dropLast_concat_getLast hne).symm⟩
      refine r_cons (s_setPop 2 3 ok rfl (d := .int here) (by simp) ?_)
      have hdrop : ((Ln' ++ [here]).map PyData.int).dropLast = Ln'.map PyData.int := by simp
      rw [hdrop]
      rw [List.length_append] at hLK
      have hLK : Ln'.length + 1 ≤ Kn.length := hLK
      refine r_one (s_forN [4, 5, 6, 7] ok (pgs_cons (pg_name (i := 4) ok.nd rfl (.inl rfl)) (pgs_cons (pg_name (i := 5) ok.nd rfl (.inl rfl)) (pgs_cons (pg_name (i := 6) ok.nd rfl (.inl rfl)) (pgs_cons (pg_name (i := 7) ok.nd rfl (.inl rfl)) (pgs_nil))))) (qi_tup (q_v 0 ⟨_, rfl, ⟨_, rfl, ⟨fun _ => trivial, fun i Γ => ∃ (X : List Int) (x4 x5 x6 x7 x8 x9 : Option Sl), (Kn ++ X).Nodup ∧ (∀ x, x ∈ Kn ++ X → 0 ≤ x ∧ x < rooms) ∧ (∀ j d, j < i → ds[j]? = some d → (d.1 = here → d.2.2.1 ∈ Kn ++ X) ∧ (d.2.2.1 = here → d.1 ∈ Kn ++ X)) ∧ Γ = [some (.d (eDs ds)), some (.ok p (kvB (Kn ++ X))), some (.o q ((Ln' ++ X).map PyData.int)), some (.d (eI here)), x4, x5, x6, x7, x8, x9], ⟨[], _, _, _, _, _, _, by rw [List.append_nil]; exact hJ.nd, by rw [List.append_nil]; exact hJ.rng, fun j d hj => absurd hj (by omega), by rw [List.append_nil, List.append_nil]; rfl⟩, fun i d Γ hd iv => ?_, fun Γ iv => ?_⟩⟩⟩)))
      · obtain ⟨X, x4, x5, x6, x7, x8, x9, hXn, hXr, hX, rfl⟩ := iv
        obtain ⟨⟨near, first, far, second⟩, hdo, rfl⟩ := getMap hd
        have hdk := hs.dr _ (List.mem_of_getElem? hdo)
        refine ⟨[.int near, .int first, .int far, .int second], rfl, rfl, fun gh => ?_⟩
        refine r_one (s_forN [8, 9] (ok.push gh) (pgs_cons (pg_name (i := 8) ok.nd rfl (.inl rfl)) (pgs_cons (pg_name (i := 9) ok.nd rfl (.inl rfl)) (pgs_nil))) (qi_tup (q_tup (qa_cons (q_tup (qa_cons (q_v 4 ⟨_, rfl, qa_cons (q_v 6 ⟨_, rfl, qa_nil ⟨_, rfl, by simp, qa_cons (q_tup (qa_cons (q_v 6 ⟨_, rfl, qa_cons (q_v 4 ⟨_, rfl, qa_nil ⟨_, rfl, by simp, qa_nil ⟨_, rfl, by simp, ⟨_, rfl, ⟨fun _ => trivial, fun l Γ => ∃ (X : List Int) (x8 x9 : Option Sl), (Kn ++ X).Nodup ∧ (∀ x, x ∈ Kn ++ X → 0 ≤ x ∧ x < rooms) ∧ (∀ j d, j < i → ds[j]? = some d → (d.1 = here → d.2.2.1 ∈ Kn ++ X) ∧ (d.2.2.1 = here → d.1 ∈ Kn ++ X)) ∧ (1 ≤ l → near = here → far ∈ Kn ++ X) ∧ (2 ≤ l → far = here → near ∈ Kn ++ X) ∧ Γ = [some (.d (eDs ds)), some (.ok p (kvB (Kn ++ X))), some (.o q ((Ln' ++ X).map PyData.int)), some (.d (eI here)), some (.d (eI near)), some (.d (eI first)), some (.d (eI far)), some (.d (eI second)), x8, x9], ⟨X, _, _, hXn, hXr, hX, fun h => absurd h (by omega), fun h => absurd h (by omega), rfl⟩, fun l d Γ hd2 iv => ?_, fun Γ iv => ?_⟩⟩⟩⟩⟩)⟩)))⟩⟩)⟩)))))))
        · obtain ⟨X, x8, x9, hXn, hXr, hX, h1, h2, rfl⟩ := iv
          obtain ⟨a, b, rfl, hab⟩ : ∃ a b : Int, d = .tuple [.int a, .int b] ∧ ((l = 0 ∧ a = near ∧ b = far) ∨ (l = 1 ∧ a = far ∧ b = near)) := by
            match l, hd2 with
            | 0, hd2 =>
              cases hd2
              exact ⟨near, far, rfl, .inl ⟨rfl, rfl, rfl⟩⟩
            | 1, hd2 =>
              cases hd2
              exact ⟨far, near, rfl, .inr ⟨rfl, rfl, rfl⟩⟩
            | l + 2, hd2 => cases hd2
          have hbr : 0 ≤ b ∧ b < rooms := by
            rcases hab with ⟨_, _, rfl⟩ | ⟨_, _, rfl⟩
            · exact hdk.far
            · exact hdk.near
          have hfm := Jr.few hrm.2 hXn hXr
          have fin : ∀ Y : List Int, (∀ x, x ∈ Kn ++ X → x ∈ Kn ++ Y) → (a = here → b ∈ Kn ++ Y) → (∀ j d, j < i → ds[j]? = some d → (d.1 = here → d.2.2.1 ∈ Kn ++ Y) ∧ (d.2.2.1 = here → d.1 ∈ Kn ++ Y)) ∧ (1 ≤ l + 1 → near = here → far ∈ Kn ++ Y) ∧ (2 ≤ l + 1 → far = here → near ∈ Kn ++ Y) := by
            intro Y hY hY2
            refine ⟨fun j d hj hd => ⟨fun q => hY _ ((hX j d hj hd).1 q), fun q => hY _ ((hX j d hj hd).2 q)⟩, ?_, ?_⟩
            · intro _ q
              rcases hab with ⟨rfl, rfl, rfl⟩ | ⟨rfl, rfl, rfl⟩
              · exact hY2 q
              · exact hY _ (h1 (by omega) q)
            · intro hl q
              rcases hab with ⟨rfl, rfl, rfl⟩ | ⟨rfl, rfl, rfl⟩
              · omega
              · exact hY2 q
          refine ⟨[.int a, .int b], rfl, rfl, fun gh2 => ?_⟩
          have ok2 := (ok.push gh).push gh2
          refine r_one (s_if (qt_w (qw_and (qt_cv (c_eqI (q_v 8 ⟨_, rfl, ⟨_, rfl, q_v 3 ⟨_, rfl, ⟨_, rfl, ⟨_, rfl, ⟨fun hb1 => qw_and1 (qt_cv (c_dnotin ok2 (q_v 9 ⟨_, rfl, ⟨_, rfl, q_v 1 ⟨_, rfl, ⟨_, rfl, ⟨_, rfl, ⟨fun hb2 => ?_, fun hb2 => ?_⟩⟩⟩⟩⟩⟩))), fun hb1 => ⟨fun hb2 => (nomatch hb2), fun hb2 => ?_⟩⟩⟩⟩⟩⟩⟩))))))
          · rw [kvB_some] at hb2
            have hni : b ∉ Kn ++ X := nd_t hb2
            refine r_cons (s_dput 1 ok2 rfl (q_bl ⟨_, rfl, q_v 9 ⟨_, rfl, ⟨_, rfl, ?_, ?_⟩⟩⟩))
            · unfold kvB
              rw [List.length_map]
              omega
            refine r_one (s_append 2 rfl (q_v 9 ⟨_, rfl, ⟨_, rfl, ?_, ?_⟩⟩))
            · have := List.length_append (as := Kn) (bs := X)
              rw [List.length_map, List.length_append]
              omega
            have hb2' : b ∈ Kn ++ (X ++ [b]) := by simp
            have hsub : ∀ x, x ∈ Kn ++ X → x ∈ Kn ++ (X ++ [b]) := fun x hx => by
              rw [← List.append_assoc]
              exact List.mem_append_left _ hx
            obtain ⟨f1, f2, f3⟩ := fin (X ++ [b]) hsub fun _ => hb2'
            refine ⟨rfl, X ++ [b], some (.d (eI a)), some (.d (eI b)), ?_, ?_, f1, f2, f3, ?_⟩
            · rw [← List.append_assoc, List.nodup_append]
              refine ⟨hXn, by simp, fun x hx y hy => ?_⟩
              have : y = b := by simpa using hy
              intro e
              rw [e, this] at hx
              exact hni hx
            · intro x hx
              rw [← List.append_assoc] at hx
              rcases List.mem_append.mp hx with h | h
              · exact hXr x h
              · have : x = b := by simpa using h
                rw [this]
                exact hbr
            · have e1 : putD (kvB (Kn ++ X)) b (.bool true) = kvB (Kn ++ (X ++ [b])) := by
                rw [kvB_put hni, List.append_assoc]
              have e2 : (Ln' ++ X).map PyData.int ++ [.int b] = (Ln' ++ (X ++ [b])).map PyData.int := by
                rw [← List.append_assoc, List.map_append (l₁ := Ln' ++ X)]
                rfl
              rw [← e1, ← e2]
              rfl
          · rw [kvB_some] at hb2
            have hin : b ∈ Kn ++ X := nd_f hb2
            obtain ⟨f1, f2, f3⟩ := fin X (fun _ h => h) fun _ => hin
            exact r_nil ⟨rfl, X, _, _, hXn, hXr, f1, f2, f3, rfl⟩
          · have hne : a ≠ here := by simpa using hb1
            obtain ⟨f1, f2, f3⟩ := fin X (fun _ h => h) fun e => absurd e hne
            exact r_nil ⟨rfl, X, _, _, hXn, hXr, f1, f2, f3, rfl⟩
        · obtain ⟨X, x8, x9, hXn, hXr, hX, h1, h2, rfl⟩ := iv
          refine ⟨rfl, X, _, _, _, _, _, _, hXn, hXr, fun j d hj hdj => ?_, rfl⟩
          by_cases h : j = i
          · rw [h, hdo] at hdj
            cases hdj
            exact ⟨h1 (by show 1 ≤ 2; omega), h2 (by show 2 ≤ 2; omega)⟩
          · exact hX j d (by omega) hdj
      · obtain ⟨X, x4, x5, x6, x7, x8, x9, hXn, hXr, hX, rfl⟩ := iv
        have hfm := Jr.few hrm.2 hXn hXr
        rw [List.length_append] at hfm
        refine ⟨rfl, _, ?_, Kn ++ X, Ln' ++ X, _, _, _, _, _, _, _, hJ.next hXn hXr fun d hd => ?_, rfl, ?_, rfl⟩
        · simp only [List.length_append, List.length_cons, List.length_nil]
          omega
        · obtain ⟨j, hj⟩ := List.mem_iff_getElem?.mp hd
          refine hX j d ?_ hj
          rw [List.length_map]
          exact (List.getElem?_eq_some_iff.mp hj).1
        · simp only [List.length_append]
          omega
    · have hnil : Ln = [] := by
        cases Ln with
        | nil => rfl
        | cons x l => cases hb
      subst hnil
      exact r_one (s_ret (q_v 1 ⟨_, rfl, ⟨rfl, hk p Kn (hJ.all hc hrm.1)⟩⟩))
end
end PF


set_option maxHeartbeats 4000000
/-! D29: a house is made -/
namespace PF
open PySem PySem.Spec PyProof.Rows L2 QL PR
section
variable {K : PySem.W.Frag} {H H' : Hp}
mutual
theorem Im.kpT (h : ∀ a xs, SqT K H a xs → SqT K H' a xs) : ∀ {v : V} {d : D}, Im K H v d → Im K H' v d
  | _, _, .non => .non
  | _, _, .bl b => .bl b
  | _, _, .int i => .int i
  | _, _, .tup q r => .tup (h _ _ q) (ImA.kpT h r)
  | _, _, .any v => .any v
theorem ImA.kpT (h : ∀ a xs, SqT K H a xs → SqT K H' a xs) : ∀ {vs : List V} {ds : List D}, ImA K H vs ds → ImA K H' vs ds
  | _, _, .nil => .nil
  | _, _, .cons q r => .cons (Im.kpT h q) (ImA.kpT h r)
end
theorem sqT_ins {x C dx : Addr} {fs : List (Str × V)} {o : HO} (hx : H x = some (.ins C dx fs)) : ∀ a xs, SqT K H a xs → SqT K (upd H x o) a xs := fun a xs q => by
  rcases q with q | q
  · rcases q with q | ⟨ob, q⟩
    · exact .inl (.inl (by rw [upd_ne (ne_of q hx (by intro z; cases z))]; exact q))
    · exact .inl (.inr ⟨ob, by rw [upd_ne (ne_of q hx (by intro z; cases z))]; exact q⟩)
  · exact .inr q
end
section
variable {W : Wx} {ν : Nat} {st : Stmt} {rest : List Stmt} {Γ : Ga} {P : Po} {σ : L2.St} {H : Hp} {D : Ends}
/-- a statement by data, the rest by hand -/
theorem r1_then (h : R1 W ν st Γ P) (n1 : ∀ ν z, ¬ P.rt ν z) (n2 : ∀ ν Γ, ¬ P.bk ν Γ) (n3 : ∀ ν Γ, ¬ P.ct ν Γ) (r : W.Rs ν σ Γ H) (hk : ∀ {ν' : Nat} σ' H' Γ', W.Rs ν' σ' Γ' H' → P.nx ν' Γ' → wpSs W.X rest D σ' H') : wpSs W.X (st :: rest) D σ H := by
  refine wpss_of (pss_cons ps_wp pss_wp) ?_
  exact h σ H { D with nx := wpSs W.X rest D } r ⟨fun σ' H' Γ' r' q => hk σ' H' Γ' r' q, fun v H z _ _ _ _ _ q => absurd q (n1 _ _), fun σ H Γ _ q => absurd q (n2 _ _), fun σ H Γ _ q => absurd q (n3 _ _)⟩
end
theorem sc_init : FnScope ["self", "rooms", "doors", "known", "room"] ["self", "rooms", "doors"] (defScope s_init) := ⟨rfl, rfl, rfl, by decide +kernel, rfl, by decide +kernel, by decide +kernel⟩
def spInit (K : PySem.W.Frag) (C : Addr) : Sp := fun vs H Q _ => ∃ (x dx : Addr) (rooms : Int) (t : V) (ds : List Door), vs = [.ref x, .int rooms, t] ∧ H x = some (.ins C dx []) ∧ Im K H t (eDs ds) ∧ Hs rooms ds ∧ Cn rooms ds ∧
  ∀ H2 : Hp, (∀ a o, a ≠ x → H a = some o → H2 a = some o) → (∃ fs t', H2 x = some (.ins C dx fs) ∧ fs.lookup ("rooms" : Str) = some (.int rooms) ∧ fs.lookup ("doors" : Str) = some t' ∧ Im K H2 t' (eDs ds)) → Q .non H2
section
variable {P : Program} {w : World} {K : PySem.W.Frag} {mg : Str → Option Value} {base : Heap} {C : Addr}
theorem ok_init {f : Addr} {fd : FuncData} (F : FunD K "__init__" "House.__init__" (defArgs s_init) (defBody s_init) (defScope s_init) [] [] f fd) (B : Bi mg) (T : Tx K mg C) (HF : HouseF K C)
    (G_is_number : FnG P w K mg base C 1 "is_number" ["value"] sp_is_number) (G_are_doors : FnG P w K mg base C 4 "are_doors" ["value", "rooms"] sp_are_doors) (G_joined_rooms : FnG P w K mg base C 1 "joined_rooms" ["doors"] sp_joined_rooms) :
    FnOk P w K mg base CX0 5 f fd ["self", "rooms", "doors"] (spInit K C) := by
  refine F.ok sc_init (fun vs H Q E h => ?_) (fun cdv A outer s H vs Q E hr h => ?_)
  · obtain ⟨x, dx, rooms, t, ds, rfl, _⟩ := h
    rfl
  · obtain ⟨x, dx, rooms, t, ds, rfl, hx, ht, hs, hc, hQ⟩ := h
    obtain ⟨tt, tMOST_ROOMS⟩ := T.MOST_ROOMS
    have hrm := hs.rm
    refine ⟨wpSs (cxOf CX0 P w K mg base ["self", "rooms", "doors", "known", "room"] "House.__init__" (defScope s_init) f cdv A outer s H E).nox (defBody s_init), PSs.nox pss_wp, ?_⟩
    have ok : (⟨(cxOf CX0 P w K mg base ["self", "rooms", "doors", "known", "room"] "House.__init__" (defScope s_init) f cdv A outer s H E).nox, ⟨C, none⟩, H, []⟩ : Wx).Ok := ⟨sc_init.nd, rfl, hr.units, PassesOwn.never⟩
    have r0 := start_rs (K := K) (c := ⟨C, none⟩) (H := H) (N := ["self", "rooms", "doors", "known", "room"]) (vs := [.ref x, .int rooms, t]) (as := [.v (.ref x), .d (eI rooms), .d (eDs ds)]) (ν := 0) (fun s hs => nomatch hs) (.cons ⟨rfl, rfl⟩ (.cons ⟨.int _, rfl⟩ (.cons ⟨ht, rfl⟩ .nil)))
    refine r1_then (W := ⟨(cxOf CX0 P w K mg base ["self", "rooms", "doors", "known", "room"] "House.__init__" (defScope s_init) f cdv A outer s H E).nox, ⟨C, none⟩, H, []⟩) (ν := 0) (P := { nx := fun ν' Γ' => ν' = 0 ∧ Γ' = [some (.v (.ref x)), some (.d (eI rooms)), some (.d (eDs ds)), none, none] })
      (s_ifF (qt_w (qw_orF (qt_notF (qt_v (q_call G_is_number (hr.mono (by decide)) (qa_cons (q_v 1 ⟨_, rfl, qa_nil ⟨rfl, ⟨_, rfl, Low.h, ⟨_, rfl, ⟨rfl, qw_or1 (qt_notF (qt_chain op_le op_le (by with_unfolding_all rfl) (q_int ⟨_, rfl, q_v 1 ⟨_, rfl, ⟨_, rfl, fun hc => q_gint tMOST_ROOMS ⟨_, rfl⟩ ⟨_, rfl, ⟨?_, ⟨rfl, rfl⟩⟩⟩, fun hc => absurd hc ?_⟩⟩⟩)))⟩⟩⟩⟩⟩)))))))) (fun _ _ h => h) (fun _ _ h => h) (fun _ _ h => h) r0 fun σ1 H1 Γ1 r1 hΓ1 => ?_
    · exact decide_eq_true (by omega)
    · have : decide ((1 : Int) ≤ rooms) = true := decide_eq_true hrm.1
      rw [this]
      exact fun h => nomatch h
    obtain ⟨rfl, rfl⟩ := hΓ1
    refine r1_then (P := { nx := fun ν' Γ' => ν' = 0 ∧ Γ' = [some (.v (.ref x)), some (.d (eI rooms)), some (.d (eDs ds)), none, none] })
      (s_ifF (qt_notF (qt_v (q_call G_are_doors (hr.mono (by decide)) (qa_cons (q_v 2 ⟨_, rfl, qa_cons (q_v 1 ⟨_, rfl, qa_nil ⟨rfl, ⟨_, _, rfl, hs, ⟨_, rfl, ⟨rfl, ⟨rfl, rfl⟩⟩⟩⟩⟩⟩)⟩)))))) (fun _ _ h => h) (fun _ _ h => h) (fun _ _ h => h) r1 fun σ2 H2 Γ2 r2 hΓ2 => ?_
    obtain ⟨rfl, rfl⟩ := hΓ2
    refine r1_then (P := { nx := fun ν' Γ' => ν' = 0 ∧ ∃ p Kn, (∀ r, 0 ≤ r → r < rooms → r ∈ Kn) ∧ Γ' = [some (.v (.ref x)), some (.d (eI rooms)), some (.d (eDs ds)), some (.ok p (kvB Kn)), none] })
      (s_set 3 ok (q_call G_joined_rooms (hr.mono (by decide)) (qa_cons (q_v 2 ⟨_, rfl, qa_nil ⟨rfl, ⟨rooms, ds, rfl, hs, hc, fun p Kn hKn => ⟨rfl, ⟨rfl, p, Kn, hKn, rfl⟩⟩⟩⟩⟩)))) (fun _ _ h => h) (fun _ _ h => h) (fun _ _ h => h) r2 fun σ3 H3 Γ3 r3 hΓ3 => ?_
    obtain ⟨rfl, p, Kn, hKn, rfl⟩ := hΓ3
    refine r1_then (P := { nx := fun ν' Γ' => ∃ x4, Γ' = [some (.v (.ref x)), some (.d (eI rooms)), some (.d (eDs ds)), some (.ok p (kvB Kn)), x4] })
      (s_for 4 ok (qi_range1 B.range (q_v 1 ⟨_, rfl, ⟨rooms, rfl, by omega, ⟨fun _ => trivial, fun i Γ => ∃ x4, Γ = [some (.v (.ref x)), some (.d (eI rooms)), some (.d (eDs ds)), some (.ok p (kvB Kn)), x4], ⟨_, rfl⟩, fun i d Γ hd iv gh => ?_, fun Γ iv => iv⟩⟩⟩))) (fun _ _ h => h) (fun _ _ h => h) (fun _ _ h => h) r3 fun σ4 H4 Γ4 r4 hΓ4 => ?_
    · obtain ⟨x4, rfl⟩ := iv
      obtain ⟨j, hj, rfl⟩ := getMap hd
      have hjr : (j : Int) < rooms := by
        have h1 := (List.getElem?_eq_some_iff.mp hj).1
        rw [List.length_range] at h1
        rw [List.getElem?_range h1] at hj
        have := Option.some.inj hj
        omega
      have hin : (!(QL.getD (kvB Kn) (j : Int)).isSome) = false := by
        rw [kvB_some, decide_eq_true (hKn j (by omega) hjr)]
        rfl
      exact r_one (s_ifF (qt_cv (c_dnotin (ok.push gh) (q_v 4 ⟨_, rfl, ⟨_, rfl, q_v 3 ⟨_, rfl, ⟨_, rfl, ⟨_, rfl, ⟨hin, ⟨rfl, _, rfl⟩⟩⟩⟩⟩⟩⟩))))
    obtain ⟨x4, rfl⟩ := hΓ4
    obtain ⟨v0, h0, i0, _⟩ := r4.get (i := 0) rfl
    obtain ⟨v1, h1, i1, _⟩ := r4.get (i := 1) rfl
    obtain ⟨v2, h2, i2, _⟩ := r4.get (i := 2) rfl
    have i0 : v0 = .ref x := i0
    have i1 : v1 = .int rooms := Im.intI i1
    have i2 : Im K H4 v2 (eDs ds) := i2
    subst i0 i1
    have nm : ∀ a, ¬ Mt ⟨C, none⟩ a := fun a ⟨_, q, _⟩ => nomatch q
    have hx4 : H4 x = some (.ins C dx []) := r4.ext x _ hx (nm x)
    refine wpss_of (pss_cons (ps_fld (pe_var (i := 0) rfl (by first | exact Or.inl rfl | exact Or.inr (Or.inl rfl) | exact Or.inr (Or.inr rfl)) (by decide) (by decide)) (pe_var (i := 1) rfl (by first | exact Or.inl rfl | exact Or.inr (Or.inl rfl) | exact Or.inr (Or.inr rfl)) (by decide) (by decide)) rfl)
      (pss_one (ps_fld (pe_var (i := 0) rfl (by first | exact Or.inl rfl | exact Or.inr (Or.inl rfl) | exact Or.inr (Or.inr rfl)) (by decide) (by decide)) (pe_var (i := 2) rfl (by first | exact Or.inl rfl | exact Or.inr (Or.inl rfl) | exact Or.inr (Or.inr rfl)) (by decide) (by decide)) rfl))) ?_
    refine ⟨_, h1, _, h0, x, C, dx, [], rfl, hx4, HF.cl, HF.nR, (by show 0 < 1000; omega), ?_⟩
    refine ⟨_, h2, _, h0, x, C, dx, _, rfl, upd_same, HF.cl, HF.nD, (by show 1 < 1000; omega), ?_⟩
    refine hQ _ (fun a o ha h => ?_) ⟨_, v2, upd_same, rfl, rfl, ?_⟩
    · rw [upd_ne ha, upd_ne ha]
      exact r4.ext a o h (nm a)
    · exact Im.kpT (sqT_ins upd_same) (Im.kpT (sqT_ins hx4) i2)
end
/-- House(rooms, doors) -/
theorem q_make {ν : Nat} {W : Wx} {Γ : Ga} {k : Nat → Sl → Prop} {e : Expr} {es : List Expr} {pos p0 : Pos} {nm : Str} {f : Addr} {fd : FuncData} {ps : List Str} (M : Mk W.X.K W.c.C f) (F : FnOk W.X.prog W.X.w W.X.K W.X.mg W.X.base CX0 5 f fd ps (spInit W.X.K W.c.C)) (hb : Binds W.X.K fd ps []) (hr : Room 6 W.X.A)
    (hm : W.X.mg nm = some (.ref W.c.C)) (h : QA W ν Γ (e :: es) fun ν1 zs => ∃ rooms ds, zs = [.d (eI rooms), .d (eDs ds)] ∧ Hs rooms ds ∧ Cn rooms ds ∧ k ν1 (.h rooms (eDs ds))) (hg : Gl W.X nm := by rfl) (hdb : (nm == ("__debug__" : Str)) = false := by decide)
    (he : starEach (e :: es) W.X.env = (false, eval e W.X.env) :: starEach es W.X.env := by rfl) (hpl : (backTo pos (starEach es W.X.env)).any (·.1) = false := by rfl) : QE W ν Γ (.Call (.Name nm p0) (e :: es) [] pos) k := fun σ H Q r K => by
  refine wp_of (pe_make M F hr hg hm hb .nil pass0 pa_wp hdb he hpl) ?_
  refine h σ H _ r fun vs H1 zs r1 e1 i1 _ ⟨rooms, ds, ez, hs, hc, hk⟩ => ?_
  subst ez
  intro x dx hx hdx hne
  cases i1 with
  | cons q1 i1 =>
    cases i1 with
    | cons q2 i1 =>
      cases i1
      have e1' := Im.intI q1.1
      subst e1'
      have hH : ∀ a o, H1 a = some o → a ≠ x ∧ (upd (upd H1 dx (.own x)) x (.ins W.c.C dx [])) a = some o := fun a o ha => by
        have n1 : a ≠ x := ne_of_none ha hx
        exact ⟨n1, by rw [upd_ne n1, upd_ne (ne_of_none ha hdx)]; exact ha⟩
      have hkp : ∀ H3 : Hp, (∀ a o, H1 a = some o → H3 a = some o) → Kp H1 H3 := fun H3 h => ⟨fun a xs q => by
        rcases q with q | ⟨ob, q⟩
        · exact .inl (h _ _ q)
        · exact .inr ⟨ob, h _ _ q⟩, fun a C dx fs q => h _ _ q⟩
      refine ⟨x, dx, rooms, _, ds, rfl, upd_same, Im.kp (hkp _ fun a o ha => (hH a o ha).2) q2.1, hs, hc, fun H2 hk2 ⟨fs, t', h3, h4, h5, h6⟩ => ⟨rfl, ?_⟩⟩
      have ex : ∀ a o, H1 a = some o → H2 a = some o := fun a o ha => hk2 a o (hH a o ha).1 (hH a o ha).2
      have ex2 : Ext W.c H1 H2 := fun a o ha _ => ex a o ha
      exact K (.ref x) H2 (.h rooms (eDs ds)) (r1.extd ex2 (r1.st.keep ex)) (e1.trans ex2) ⟨x, dx, fs, t', rfl, h3, h4, h5, h6⟩ .h (.no rfl) hk
end PF


set_option maxHeartbeats 4000000
/-! D30 -/
namespace PF
open PySem PySem.Spec PyProof.Rows L2 QL PR
theorem core_room {rooms : Int} {ds : List Door} {u : Walk} {r : Int} (hs : Hs rooms ds) (h : WOk ds u r) (hn : 0 < u.passes.length) : 0 ≤ u.room ∧ u.room < rooms := by
  obtain ⟨room, pulls, es⟩ := u
  cases es with
  | nil => cases hn
  | cons e es =>
    have hp : Path ds room (e :: es) r := h.path
    have := (gate_dok hs hp.1).near
    rw [show (gate ds e).1 = room from hp.2.1] at this
    exact this
section
variable {P : Program} {w : World} {K : PySem.W.Frag} {mg : Str → Option Value} {base : Heap} {C : Addr}
/-! ### _law_k37_other -/
abbrev s__law_k37_other : Stmt := topS 116
theorem sc__law_k37_other : FnScope ["_law_state", "_law_doors_here", "_law_rooms_here", "_law_one", "_law_core_here", "_law_way_here", "_law_lead_here"] ["_law_state", "_law_doors_here", "_law_rooms_here", "_law_one", "_law_core_here"] (defScope s__law_k37_other) := ⟨rfl, rfl, rfl, by decide +kernel, rfl, by decide +kernel, by decide +kernel⟩
def sp__law_k37_other : Spc := fun ν as k => ∃ rooms ds one core, as = [.s, .d (eDs ds), .d (eI rooms), .d (eW one), .d (eW core)] ∧ Hs rooms ds ∧ Cn rooms ds ∧ (WOk ds one one.room ∧ (0 ≤ one.room ∧ one.room < rooms) ∧ one.passes.length ≤ 6) ∧ (WOk ds core core.room ∧ core.passes.length ≤ 6) ∧ ν + 500 ≤ 1000000000 ∧ ∀ (ν' : Nat) (u : Walk), ν' ≤ ν + 500 → WOk ds u u.room → (0 ≤ u.room ∧ u.room < rooms) → u.passes.length ≤ 12 → k ν' (.d (eW u))
theorem ok__law_k37_other (A : At K mg "_law_k37_other" s__law_k37_other) (B : Bi mg) (T : Tx K mg C) (HF : HouseF K C) (G__law_ak_home : FnG P w K mg base C 6 "_law_ak_home" ["_law_state", "_law_doors_here", "_law_room_here", "_law_many"] sp__law_ak_home) (G__law_ak_lead : FnG P w K mg base C 5 "_law_ak_lead" ["_law_state", "_law_doors_here", "_law_room_here"] sp__law_ak_lead) (G__law_ak_led : FnG P w K mg base C 4 "_law_ak_led" ["_law_doors_here", "_law_lead_here", "_law_walk_here"] sp__law_ak_led) (G__law_ak_turns : FnG P w K mg base C 5 "_law_ak_turns" ["_law_doors_here", "_law_core_here"] sp__law_ak_turns) (G__law_back : FnG P w K mg base C 3 "_law_back" ["_law_doors_here", "_law_walk_here"] sp__law_back) (G__law_draw : FnG P w K mg base C 2 "_law_draw" ["_law_state", "_law_size_here"] sp__law_draw) (G__law_k37_bent : FnG P w K mg base C 4 "_law_k37_bent" ["_law_state", "_law_walk_here"] sp__law_k37_bent) (G__law_pick : FnG P w K mg base C 3 "_law_pick" ["_law_state", "_law_several"] sp__law_pick) : FnG P w K mg base C 7 "_law_k37_other" ["_law_state", "_law_doors_here", "_law_rooms_here", "_law_one", "_law_core_here"] sp__law_k37_other := by
  refine def_g (lev := 6) A sc__law_k37_other (fun _ _ _ _ _ _ us hl => match us, hl with | [_, _, _, _, _], _ => rfl) (fun ν as k h => ?_) fun f cdv A outer s H E st hr W hW ok ν as k h => ?_
  · obtain ⟨rooms, ds, one, core, rfl, hs, hc, ho, hco, hν, hk⟩ := h
    rfl
  · obtain ⟨rooms, ds, one, core, rfl, hs, hc, ho, hco, hν, hk⟩ := h
    subst hW
    obtain ⟨ho1, ho2, ho3⟩ := ho
    obtain ⟨hc1, hc3⟩ := hco
    have hz := hs.nz
    have hrm := hs.rm
    refine r_cons (s_set 5 ok (q_call G__law_draw (hr.mono (by decide)) (qa_cons (q_v 0 ⟨_, rfl, qa_cons (q_int (qa_nil ⟨rfl, ⟨_, rfl, by omega, by omega, fun ν1 r hν1 hr1 => ⟨rfl, ?_⟩⟩⟩))⟩))))
    refine r_cons (s_if (qt_cv (c_eqI (q_v 5 ⟨_, rfl, ⟨_, rfl, q_int ⟨_, rfl, ⟨_, rfl, ⟨fun hb => ?_, fun hb => ?_⟩⟩⟩⟩⟩))))
    · exact r_one (s_ret (q_call G__law_ak_home (hr.mono (by decide)) (qa_cons (q_v 0 ⟨_, rfl, qa_cons (q_v 1 ⟨_, rfl, qa_cons (q_call G__law_draw (hr.mono (by decide)) (qa_cons (q_v 0 ⟨_, rfl, qa_cons (q_v 2 ⟨_, rfl, qa_nil ⟨rfl, ⟨_, rfl, by omega, by omega, fun ν2 r2 hν2 hr2 => qa_cons (q_int (qa_nil ⟨rfl, ⟨rooms, ds, r2, rfl, hs, hc, hr2, by omega, fun ν3 u h1 h2 h3 h4 => ⟨rfl, hk ν3 u (by omega) (by rw [h3]; exact h2) (by rw [h3]; exact hr2) (by omega)⟩⟩⟩))⟩⟩⟩)⟩)))⟩)⟩))))
    · refine r_nil ?_
      refine r_cons (s_if (qt_w (qw_and (qt_cv (c_eqI (q_v 5 ⟨_, rfl, ⟨_, rfl, q_int ⟨_, rfl, ⟨_, rfl, ⟨fun hb1 => qw_and1 (qt_cv (c_neP (q_ix (q_v 4 ⟨_, rfl, ⟨_, rfl, q_int ⟨_, _, rfl, rfl, ⟨_, rfl, Low.h, q_tup (qa_nil ⟨_, rfl, by simp, ⟨_, rfl, Low.h, ⟨_, rfl, ⟨fun hb2 => ?_, fun hb2 => ?_⟩⟩⟩⟩)⟩⟩⟩⟩)) ok)), fun hb1 => ⟨fun hb2 => (nomatch hb2), fun hb2 => ?_⟩⟩⟩⟩⟩⟩))))))
      · have hne : 0 < core.passes.length := by
          cases h : core.passes with
          | nil =>
            rw [h] at hb2
            cases hb2
          | cons => simp
        have hc2 := core_room hs hc1 hne
        refine r_one (s_ret (q_call G__law_k37_bent (hr.mono (by decide)) (qa_cons (q_v 0 ⟨_, rfl, qa_cons (q_call G__law_pick (hr.mono (by decide)) (qa_cons (q_v 0 ⟨_, rfl, qa_cons (q_call G__law_ak_turns (hr.mono (by decide)) (qa_cons (q_v 1 ⟨_, rfl, qa_cons (q_v 4 ⟨_, rfl, qa_nil ⟨rfl, ⟨rooms, _, _, rfl, hs, hc1, by omega, fun p => qa_nil ⟨rfl, ⟨_, rfl, by rw [List.length_map, List.length_range]; omega, by omega, fun ν2 d hν2 hd => ?_⟩⟩⟩⟩⟩)⟩)))⟩)))⟩))))
        obtain ⟨n, hn, rfl⟩ := List.mem_map.mp hd
        have hn := List.mem_range.mp hn
        have ht := turn_ok hz hc1 (Nat.le_of_lt hn)
        have hu := nfW_ok hz ht
        have hur : (nfW ds (turnW ds core n)).room = roomAt ds core n := turn_room
        have hul : (nfW ds (turnW ds core n)).passes.length ≤ 6 := by
          have h1 := nfW_len (ds := ds) ht.len
          have h2 := turn_np hc1 (Nat.le_of_lt hn) hz
          omega
        have hup := hu.len
        refine qa_nil ⟨rfl, ⟨_, rfl, by omega, by omega, fun ν3 v hν3 h1 h2 h3 => ⟨rfl, hk ν3 v (by omega) ?_ ?_ ?_⟩⟩⟩
        · rw [h1, hur]
          refine ⟨by rw [h3, h2]; exact hup, ?_⟩
          rw [h1, h2]
          exact hu.path
        · rw [h1, hur]
          exact path_rooms hs hc2 (path_take hc1.path (Nat.le_of_lt hn)).1
        · rw [h2]
          omega
      all_goals
        refine r_nil ?_
        refine r_cons (s_set 6 ok (q_call G__law_ak_lead (hr.mono (by decide)) (qa_cons (q_v 0 ⟨_, rfl, qa_cons (q_v 1 ⟨_, rfl, qa_cons (q_ix (q_v 3 ⟨_, rfl, ⟨_, rfl, q_int ⟨_, _, rfl, rfl, qa_nil ⟨rfl, ⟨rooms, ds, one.room, rfl, hs, by omega, fun ν2 l e hν2 hl1 hl2 hl3 => ⟨rfl, ?_⟩⟩⟩⟩⟩⟩))⟩)⟩))))
        have hop := ho1.len
        refine r_one (s_ret (q_call G__law_ak_led (hr.mono (by decide)) (qa_cons (q_v 1 ⟨_, rfl, qa_cons (q_call G__law_back (hr.mono (by decide)) (qa_cons (q_v 1 ⟨_, rfl, qa_cons (q_v 6 ⟨_, rfl, qa_nil ⟨rfl, ⟨_, _, e, rfl, hl1, by omega, qa_cons (q_call G__law_k37_bent (hr.mono (by decide)) (qa_cons (q_v 0 ⟨_, rfl, qa_cons (q_v 3 ⟨_, rfl, qa_nil ⟨rfl, ⟨one, rfl, by omega, by omega, fun ν3 v hν3 h1 h2 h3 => qa_nil ⟨rfl, ⟨ds, l.bk e, v, l.room, rfl, bk_ok hl1, by rw [h3, h2]; exact hop, ?_, ⟨rfl, ?_⟩⟩⟩⟩⟩⟩)⟩)))⟩⟩⟩)⟩)))⟩))))
        · refine ⟨?_, by rw [h2]; omega⟩
          show (l.passes.reverse.map inv).length ≤ 60
          simp
          omega
        · have hv : WOk ds v l.room := by
            refine ⟨by rw [h3, h2]; exact hop, ?_⟩
            rw [h1, h2, hl2]
            exact ho1.path
          refine hk ν3 (ledW (l.bk e) v l.room) (by omega) (led_ok (bk_ok hl1) hv (by rw [h1, hl2])) ?_ ?_
          · exact path_rooms hs (by rw [hl2]; exact ho2) hl1.path
          · rw [led_len, h2]
            have : (l.bk e).passes.length = l.passes.length := by unfold Walk.bk; simp
            omega
end
end PF


set_option maxHeartbeats 4000000
/-! D31: the draws' state is made -/
namespace PF
open PySem PySem.Spec PyProof.Rows L2 QL PR
def absI (i : Int) : Int := if i < 0 then -i else i
def bigI : Int := (10 : Int) ^ (18 : Int).toNat
def ttB : D → Bool
  | .int i => decide (bigI ≤ absI i)
  | _ => false
def ffB : D → D
  | .int i => .int (absI i - bigI)
  | _ => .none
theorem great_ints : ∀ ns : List Int, ∃ gs : List Int, (∀ g, g ∈ gs → (0 : Int) ≤ g) ∧ ((ns.map PyData.int).filter ttB).map ffB = gs.map PyData.int
  | [] => ⟨[], fun g h => by simp at h, rfl⟩
  | n :: ns => by
    obtain ⟨gs, h1, h2⟩ := great_ints ns
    rw [List.map_cons, List.filter_cons]
    by_cases h : ttB (.int n) = true
    · rw [if_pos h, List.map_cons, h2]
      refine ⟨(absI n - bigI) :: gs, fun g hg => ?_, rfl⟩
      rcases List.mem_cons.mp hg with hg | hg
      · have : bigI ≤ absI n := of_decide_eq_true h
        omega
      · exact h1 g hg
    · rw [if_neg h]
      exact ⟨gs, h1, h2⟩
abbrev s__law_begun : Stmt := topS 83
theorem sc__law_begun : FnScope ["_law_script", "_law_great", "_law_cell"] ["_law_script"] (defScope s__law_begun) := ⟨rfl, rfl, rfl, by decide +kernel, rfl, by decide +kernel, by decide +kernel⟩
def spBegun (K : PySem.W.Frag) : Sp := fun vs H Q _ => ∃ (a : Addr) (ns : List Int), vs = [.ref a] ∧ SqL K H a (ns.map V.int) ∧ ns.length ≤ 1000 ∧
  ∀ (H3 : Hp) (s : SA), (∀ b o, H b = some o → H3 b = some o) → StAt s 0 H3 → (H s.sd = none ∧ H s.sg = none) → Q (.ref s.sd) H3
theorem ok_begun {P : Program} {w : World} {K : PySem.W.Frag} {mg : Str → Option Value} {base : Heap} {f : Addr} {fd : FuncData} (F : FnP K "_law_begun" s__law_begun f fd) (B : Bi mg) : FnOk P w K mg base CX0 1 f fd ["_law_script"] (spBegun K) := by
  refine F.ok (k := 0) sc__law_begun (fun vs H Q E h => ?_) (fun cdv A outer s H vs Q E hr h => ?_)
  · obtain ⟨a, ns, rfl, _⟩ := h
    rfl
  · obtain ⟨a, ns, rfl, hS, hl, hQ⟩ := h
    have nm : ∀ b, ¬ Mt ⟨0, none⟩ b := fun b ⟨_, q, _⟩ => nomatch q
    refine ⟨wpSs (cxOf CX0 P w K mg base ["_law_script", "_law_great", "_law_cell"] "_law_begun" (defScope s__law_begun) f cdv A outer s H E).nox (defBody s__law_begun), PSs.nox pss_wp, ?_⟩
    have ok : (⟨(cxOf CX0 P w K mg base ["_law_script", "_law_great", "_law_cell"] "_law_begun" (defScope s__law_begun) f cdv A outer s H E).nox, ⟨0, none⟩, H, []⟩ : Wx).Ok := ⟨sc__law_begun.nd, rfl, hr.units, PassesOwn.never⟩
    have r0 := start_rs (K := K) (c := ⟨0, none⟩) (H := H) (N := ["_law_script", "_law_great", "_law_cell"]) (vs := [.ref a]) (as := [.b (ns.map PyData.int)]) (ν := 0) (fun s hs => nomatch hs) (.cons ⟨⟨a, ns.map V.int, rfl, hS, ImA.of_ints, nm a⟩, rfl⟩ .nil)
    refine r1_then (W := ⟨(cxOf CX0 P w K mg base ["_law_script", "_law_great", "_law_cell"] "_law_begun" (defScope s__law_begun) f cdv A outer s H E).nox, ⟨0, none⟩, H, []⟩) (ν := 0) (P := { nx := fun ν' Γ' => ν' = 0 ∧ ∃ (p : Addr) (gs : List Int), (∀ g, g ∈ gs → (0 : Int) ≤ g) ∧ Γ' = [some (.b (ns.map PyData.int)), some (.o p (gs.map PyData.int)), none] })
      (s_setLc 1 ok (qc1t 2 ttB ffB ok (qi_lst (q_v 0 ⟨_, rfl, ⟨_, rfl, rfl, ⟨trivial, ?_, fun i d hd => ?_, fun p => ?_⟩⟩⟩)) (hg := (fun _ _ _ _ _ => pg_name ok.nd rfl (.inl rfl))))) (fun _ _ h => h) (fun _ _ h => h) (fun _ _ h => h) r0 fun σ1 H1 Γ1 r1 hΓ1 => ?_
    · rw [List.length_map]
      exact hl
    · obtain ⟨x, hx, rfl⟩ := getMap hd
      exact ⟨fun gh s H C cl fp => qt_cv (c_ge (q_abs B.abs (q_v 2 ⟨_, rfl, ⟨_, rfl, ⟨_, rfl, q_pow (q_int ⟨_, rfl, q_int ⟨_, rfl, ⟨by decide, by decide, by decide⟩, ⟨_, rfl, ⟨_, rfl, ⟨rfl, rfl⟩⟩⟩⟩⟩)⟩⟩⟩))), fun ht gh s H C cl fp => q_sub (q_abs B.abs (q_v 2 ⟨_, rfl, ⟨_, rfl, ⟨_, rfl, q_pow (q_int ⟨_, rfl, q_int ⟨_, rfl, ⟨by decide, by decide, by decide⟩, ⟨_, rfl, ⟨rfl, rfl⟩⟩⟩⟩)⟩⟩⟩))⟩
    · obtain ⟨gs, h1, h2⟩ := great_ints ns
      rw [h2]
      exact ⟨rfl, rfl, p, gs, h1, rfl⟩
    obtain ⟨rfl, pg, gs, hgs, rfl⟩ := hΓ1
    obtain ⟨v1, h1, i1, _⟩ := r1.get (i := 1) rfl
    obtain ⟨ev, vg, hvg, ivg⟩ : v1 = .ref pg ∧ ∃ vs, H1 pg = some (.lst vs) ∧ ImA K H1 vs (gs.map PyData.int) := i1
    have ivg2 := ImA.ints ivg
    subst ev ivg2
    have hgn : H pg = none := r1.own pg (adr_mem (i := 1) rfl rfl)
    have hgp : ∀ p, H1 p = none → pg ≠ p := fun p hp e => by
      rw [e, hp] at hvg
      cases hvg
    refine wpss_of (pss_one (ps_ret (pe_disp (pps_cons pe_str (pe_var (i := 1) rfl (by first | exact Or.inl rfl | exact Or.inr (Or.inl rfl) | exact Or.inr (Or.inr rfl)) (by decide) (by decide)) (pps_cons pe_str pe_wp (pps_cons pe_str pe_int (pps_cons pe_str pe_int pps_nil)))) rfl rfl (by simp) (by simp)))) ?_
    intro p hp
    have hpn : H p = none := Rs.fresh r1 hp
    refine ⟨_, h1, ?_⟩
    refine (q_lc (W := ⟨(cxOf CX0 P w K mg base ["_law_script", "_law_great", "_law_cell"] "_law_begun" (defScope s__law_begun) f cdv A outer s H E).nox, ⟨0, none⟩, H, []⟩) (ν := 0) (k := fun ν' z => ∃ q cs, z = .f q (List.map PyData.int cs)) ok (qc1 2 (fun d y => ∃ x : Int, d = .int x ∧ y = .int (absI x)) ok (qi_lst (q_v 0 ⟨_, rfl, ⟨_, rfl, rfl, ⟨trivial, ?_, fun i d hd gh s H C cl fp => ?_, fun acc hacc p2 => ⟨p2, ns.map absI, ?_⟩⟩⟩⟩)) (hg := (fun _ _ _ _ _ => pg_name ok.nd rfl (.inl rfl))))) σ1 _ _ (Rs.new r1 hp) fun v2 H2 z r2 e2 i2 f2 n2 hz => ?_
    · rw [List.length_map]
      exact hl
    · obtain ⟨x, hx, rfl⟩ := getMap hd
      exact q_abs B.abs (q_v 2 ⟨_, rfl, ⟨_, rfl, ⟨rfl, _, rfl, _, rfl, rfl⟩⟩⟩)
    · have := pm (f := PyData.int) (g := fun x => .int (absI x)) (fun _ _ q => by rw [eI_inj q]) hacc
      rw [this, List.map_map]
      rfl
    obtain ⟨q, cs, rfl⟩ := hz
    obtain ⟨ev, vc, hvc, ivc⟩ : v2 = .ref q ∧ ∃ vs, H2 q = some (.lst vs) ∧ ImA K H2 vs (cs.map PyData.int) := i2
    have ivc2 := ImA.ints ivc
    subst ev ivc2
    have hq0 : upd H1 p (.dK []) q = none := n2 q rfl
    have hqp : q ≠ p := fun e => by
      rw [e, upd_same] at hq0
      cases hq0
    have hqg : q ≠ pg := fun e => by
      rw [e, upd_ne (hgp p hp), hvg] at hq0
      cases hq0
    refine ⟨e2 p _ upd_same (nm p), [(kGreat, .ref pg), (kCells, .ref q), (kLeft, .int 0), (kTurn, .int 0)], rfl, by simp, ?_⟩
    refine hQ _ ⟨p, pg, q, cs⟩ (fun b o hb => ?_) ⟨⟨0, 0, gs, upd_same, ?_, by omega, hgs, by omega, by omega⟩, ?_, hqg⟩ ⟨hpn, hgn⟩
    · have hbp : b ≠ p := ne_of_none hb hpn
      rw [upd_ne hbp]
      refine e2 b o ?_ (nm b)
      rw [upd_ne hbp]
      exact r1.ext b o hb (nm b)
    · show upd H2 p _ pg = _
      rw [upd_ne (hgp p hp)]
      refine e2 pg _ ?_ (nm pg)
      rw [upd_ne (hgp p hp)]
      exact hvg
    · show upd H2 p _ q = _
      rw [upd_ne hqp]
      exact hvc
end PF


set_option maxHeartbeats 4000000
/-! D32: the law -/
namespace PF
open PySem PySem.Spec PyProof.Rows L2 QL PR
abbrev s_law : Stmt := topS 117
abbrev nLaw : List Str := ["_law_script", "_law_state", "_law_rooms_here", "_law_doors_here", "_law_house_here", "_law_one", "_law_lead_here", "_law_core_here", "_law_other", "_law_lead_there", "_law_mate", "_law_due", "_law_left", "_law_right", "_law_found"]
theorem sc_law : FnScope nLaw ["_law_script"] (defScope s_law) := ⟨rfl, rfl, rfl, by decide +kernel, rfl, by decide +kernel, by decide +kernel⟩
def spLaw (K : PySem.W.Frag) : Sp := fun vs H Q _ => ∃ (a : Addr) (ns : List Int), vs = [.ref a] ∧ SqL K H a (ns.map V.int) ∧ ns.length ≤ 63 ∧ ∀ H' : Hp, Q (.bl true) H'
theorem rr_at {W : Wx} {ν : Nat} {sts : List Stmt} {Γ : Ga} {P : Po} {σ : L2.St} {H : Hp} {D : Ends} (h : RR W ν sts Γ P) (r : W.Rs ν σ Γ H) (e : EndsOk W P D) : wpSs W.X sts D σ H := h σ H D r e
theorem ok_law {P : Program} {w : World} {K : PySem.W.Frag} {mg : Str → Option Value} {base : Heap} {C : Addr} {f : Addr} {fd : FuncData} (F : FnP K "law" s_law f fd) (B : Bi mg) (T : Tx K mg C) (HF : HouseF K C)
    (BG : ∃ fb fdb, FnOk P w K mg base CX0 1 fb fdb ["_law_script"] (spBegun K) ∧ mg "_law_begun" = some (.ref fb) ∧ PySem.W.keepIn K (.ref fb) = true ∧ Binds K fdb ["_law_script"] [])
    (MI : ∃ fi fdi, Mk K C fi ∧ FnOk P w K mg base CX0 5 fi fdi ["self", "rooms", "doors"] (spInit K C) ∧ Binds K fdi ["self", "rooms", "doors"] [])
    (G__law_draw : FnG P w K mg base C 2 "_law_draw" ["_law_state", "_law_size_here"] sp__law_draw) (G__law_ak_doors : FnG P w K mg base C 5 "_law_ak_doors" ["_law_state", "_law_rooms_here", "_law_more"] sp__law_ak_doors) (G__law_ak_home : FnG P w K mg base C 6 "_law_ak_home" ["_law_state", "_law_doors_here", "_law_room_here", "_law_many"] sp__law_ak_home) (G__law_ak_core : FnG P w K mg base C 5 "_law_ak_core" ["_law_doors_here", "_law_walk_here"] sp__law_ak_core) (G__law_k37_other : FnG P w K mg base C 7 "_law_k37_other" ["_law_state", "_law_doors_here", "_law_rooms_here", "_law_one", "_law_core_here"] sp__law_k37_other) (G__law_ak_meet : FnG P w K mg base C 6 "_law_ak_meet" ["_law_doors_here", "_law_core_here", "_law_mate"] sp__law_ak_meet) (G_lead_between : FnG P w K mg base C 8 "lead_between" ["house", "one", "other"] sp_lead_between) (G__law_ak_is_lead : FnG P w K mg base C 5 "_law_ak_is_lead" ["_law_doors_here", "_law_rooms_here", "_law_one", "_law_other", "_law_thing"] sp__law_ak_is_lead) : FnOk P w K mg base CX0 9 f fd ["_law_script"] (spLaw K) := by
  refine F.ok (k := 8) sc_law (fun vs H Q E h => ?_) (fun cdv A outer s H vs Q E hr h => ?_)
  · obtain ⟨a, ns, rfl, _⟩ := h
    rfl
  obtain ⟨a, ns, rfl, hS, hl, hQ⟩ := h
  obtain ⟨fb, fdb, Fb, mb, kb, bb⟩ := BG
  obtain ⟨fi, fdi, MK, FI, BI⟩ := MI
  refine ⟨wpSs (cxOf CX0 P w K mg base nLaw "law" (defScope s_law) f cdv A outer s H E).nox (defBody s_law), PSs.nox pss_wp, ?_⟩
  refine wpss_of (pss_cons (ps_set (i := 1) sc_law.nd rfl (Or.inl rfl) (pe_call Fb (hr.mono (by decide)) rfl mb kb bb .nil pass0 (pa_cons (pe_var (i := 0) rfl (by first | exact Or.inl rfl | exact Or.inr (Or.inl rfl) | exact Or.inr (Or.inr rfl)) (by decide) (by decide)) pa_nil) (by decide) rfl rfl)) pss_wp) ?_
  refine ⟨_, rfl, ?_⟩
  refine ⟨a, ns, rfl, hS, by omega, fun H3 s0 hx hst hfr => ?_⟩
  have hst' : StOk ⟨C, some s0⟩ 0 H3 := fun z hz => by
    cases hz
    exact hst
  have r' : (⟨(cxOf CX0 P w K mg base nLaw "law" (defScope s_law) f cdv A outer s H E).nox, ⟨C, some s0⟩, H3, []⟩ : Wx).Rs 0 ((L2.start nLaw [.ref a]).set 1 (some (.ref s0.sd))) [none, some .s, none, none, none, none, none, none, none, none, none, none, none, none, none] H3 := ⟨.refl, ⟨0, hst'⟩, hst', .cons trivial (.cons ⟨⟨s0, rfl, rfl⟩, rfl⟩ (.cons trivial (.cons trivial (.cons trivial (.cons trivial (.cons trivial (.cons trivial (.cons trivial (.cons trivial (.cons trivial (.cons trivial (.cons trivial (.cons trivial (.cons trivial (.nil))))))))))))))), List.nodup_nil, fun a m => (List.not_mem_nil m).elim, fun q hq => nomatch hq⟩
  have ok3 : (⟨(cxOf CX0 P w K mg base nLaw "law" (defScope s_law) f cdv A outer s H E).nox, ⟨C, some s0⟩, H3, []⟩ : Wx).Ok := ⟨sc_law.nd, rfl, hr.units, PassesOwn.never⟩
  refine rr_at (W := ⟨(cxOf CX0 P w K mg base nLaw "law" (defScope s_law) f cdv A outer s H E).nox, ⟨C, some s0⟩, H3, []⟩) (ν := 0) (Γ := [none, some .s, none, none, none, none, none, none, none, none, none, none, none, none, none]) (P := { nx := fun _ _ => False, rt := fun _ z => z = .d (.bool true) }) ?_ r' ⟨fun _ _ _ _ q => q.elim, fun v H z _ _ i _ _ q => ?_, fun _ _ _ _ q => q.elim, fun _ _ _ _ q => q.elim⟩
  rotate_left
  · subst q
    have e := Im.blI i
    subst e
    exact hQ H
  refine r_cons (s_set 2 ok3 (q_add (q_int ⟨_, rfl, q_call G__law_draw (hr.mono (by decide)) (qa_cons (q_v 1 ⟨_, rfl, qa_cons (q_int (qa_nil ⟨rfl, ⟨_, rfl, by omega, by omega, fun ν1 r1 hν1 hr1 => ⟨_, rfl, ⟨rfl, ?_⟩⟩⟩⟩))⟩))⟩)))
  obtain ⟨rooms, hrooms⟩ : ∃ rooms, rooms = 1 + r1 := ⟨_, rfl⟩
  rw [← hrooms]
  have hrm : 1 ≤ rooms ∧ rooms ≤ 3 := by omega
  refine r_cons (s_set 3 ok3 (q_call G__law_ak_doors (hr.mono (by decide)) (qa_cons (q_v 1 ⟨_, rfl, qa_cons (q_v 2 ⟨_, rfl, qa_cons (q_int (qa_nil ⟨rfl, ⟨rooms, rfl, hrm, by omega, fun ν2 ds hν2 hs hc => ⟨rfl, ?_⟩⟩⟩))⟩)⟩))))
  have hz := hs.nz
  refine r_cons (s_set 4 ok3 (q_make MK FI BI (hr.mono (by decide)) T.House (qa_cons (q_v 2 ⟨_, rfl, qa_cons (q_v 3 ⟨_, rfl, qa_nil ⟨rooms, ds, rfl, hs, hc, ⟨rfl, ?_⟩⟩⟩)⟩))))
  refine r_cons (s_set 5 ok3 (q_call G__law_ak_home (hr.mono (by decide)) (qa_cons (q_v 1 ⟨_, rfl, qa_cons (q_v 3 ⟨_, rfl, qa_cons (q_call G__law_draw (hr.mono (by decide)) (qa_cons (q_v 1 ⟨_, rfl, qa_cons (q_v 2 ⟨_, rfl, qa_nil ⟨rfl, ⟨_, rfl, by omega, by omega, fun ν3 r3 hν3 hr3 => qa_cons (q_int (qa_nil ⟨rfl, ⟨rooms, ds, r3, rfl, hs, hc, hr3, by omega, fun ν4 one hν4 ho hor hol => ⟨rfl, ?_⟩⟩⟩))⟩⟩⟩)⟩)))⟩)⟩))))
  have ho' : WOk ds one one.room := by
    rw [hor]
    exact ho
  have hon : 0 ≤ one.room ∧ one.room < rooms := by
    rw [hor]
    exact hr3
  obtain ⟨cr1, cl1⟩ := coreW_cr hz ho'
  refine r_cons (s_tup [6, 7] ok3 (pgs_cons (pg_name (i := 6) ok3.nd rfl (.inl rfl)) (pgs_cons (pg_name (i := 7) ok3.nd rfl (.inl rfl)) (pgs_nil))) (q_call G__law_ak_core (hr.mono (by decide)) (qa_cons (q_v 3 ⟨_, rfl, qa_cons (q_v 5 ⟨_, rfl, qa_nil ⟨rfl, ⟨rooms, ds, one, rfl, hs, ho', by omega, fun lead1 => ⟨_, rfl, rfl, ?_⟩⟩⟩⟩)⟩))))
  refine r_cons (s_set 8 ok3 (q_call G__law_k37_other (hr.mono (by decide)) (qa_cons (q_v 1 ⟨_, rfl, qa_cons (q_v 3 ⟨_, rfl, qa_cons (q_v 2 ⟨_, rfl, qa_cons (q_v 5 ⟨_, rfl, qa_cons (q_v 7 ⟨_, rfl, qa_nil ⟨rfl, ⟨rooms, ds, one, coreW ds one, rfl, hs, hc, ⟨ho', hon, hol⟩, ⟨cr1.ok, by omega⟩, by omega, fun ν5 other hν5 hw2 hr2 hl2 => ⟨rfl, ?_⟩⟩⟩⟩)⟩)⟩)⟩)⟩))))
  obtain ⟨cr2, cl2⟩ := coreW_cr hz hw2
  refine r_cons (s_tup [9, 10] ok3 (pgs_cons (pg_name (i := 9) ok3.nd rfl (.inl rfl)) (pgs_cons (pg_name (i := 10) ok3.nd rfl (.inl rfl)) (pgs_nil))) (q_call G__law_ak_core (hr.mono (by decide)) (qa_cons (q_v 3 ⟨_, rfl, qa_cons (q_v 8 ⟨_, rfl, qa_nil ⟨rfl, ⟨rooms, ds, other, rfl, hs, hw2, by omega, fun lead2 => ⟨_, rfl, rfl, ?_⟩⟩⟩⟩)⟩))))
  obtain ⟨core, hcore⟩ : ∃ core, core = coreW ds one := ⟨_, rfl⟩
  obtain ⟨mate, hmate⟩ : ∃ mate, mate = coreW ds other := ⟨_, rfl⟩
  rw [← hcore] at cr1 cl1
  rw [← hmate] at cr2 cl2
  rw [← hcore, ← hmate]
  have e0 : ∀ u : Walk, PyData.eqv (ePs u.passes) (.tuple (List.map datD [])) = decide (u.passes = []) := fun u => eqv_Ps0 u.passes
  refine r_mid (fun ν6 Γ' => ν6 = ν5 ∧ ¬ (core.passes = [] ∧ mate.passes = []) ∧ Γ' = [none, some .s, some (.d (eI rooms)), some (.d (eDs ds)), some (.h rooms (eDs ds)), some (.d (eW one)), some (.d (eW lead1)), some (.d (eW core)), some (.d (eW other)), some (.d (eW lead2)), some (.d (eW mate)), none, none, none, none]) (s_if (qt_w (qw_and (qt_cv (c_eqP (q_ix (q_v 7 ⟨_, rfl, ⟨_, rfl, q_int ⟨_, _, rfl, rfl, ⟨_, rfl, Low.h, q_tup (qa_nil ⟨_, rfl, by simp, ⟨_, rfl, Low.h, ⟨_, rfl, ⟨fun hb1 => qw_and1 (qt_cv (c_eqP (q_ix (q_v 10 ⟨_, rfl, ⟨_, rfl, q_int ⟨_, _, rfl, rfl, ⟨_, rfl, Low.h, q_tup (qa_nil ⟨_, rfl, by simp, ⟨_, rfl, Low.h, ⟨_, rfl, ⟨fun hb2 => ?_, fun hb2 => ?_⟩⟩⟩⟩)⟩⟩⟩⟩)) ok3)), fun hb1 => ⟨fun hb2 => (nomatch hb2), fun hb2 => ?_⟩⟩⟩⟩⟩)⟩⟩⟩⟩)) ok3))))) ?_
  · exact r_one (s_ret (q_bl ⟨rfl, rfl⟩))
  · refine r_nil ⟨rfl, fun h => ?_, rfl⟩
    have : decide (mate.passes = []) = false := (e0 mate).symm.trans hb2
    exact of_decide_eq_false this h.2
  · refine r_nil ⟨rfl, fun h => ?_, rfl⟩
    have : decide (core.passes = []) = false := (e0 core).symm.trans hb1
    exact of_decide_eq_false this h.1
  rintro ν6 Γ' ⟨rfl, hne, rfl⟩
  have hpos : core.passes.length = mate.passes.length → 0 < core.passes.length := fun he => by
    rcases Nat.eq_zero_or_pos core.passes.length with h | h
    · exact absurd ⟨List.eq_nil_of_length_eq_zero h, List.eq_nil_of_length_eq_zero (by omega)⟩ hne
    · exact h
  refine r_mid (fun ν7 Γ' => ∃ due : Bool, (due = true ↔ core.passes.length = mate.passes.length ∧ Due ds core mate) ∧ Γ' = [none, some .s, some (.d (eI rooms)), some (.d (eDs ds)), some (.h rooms (eDs ds)), some (.d (eW one)), some (.d (eW lead1)), some (.d (eW core)), some (.d (eW other)), some (.d (eW lead2)), some (.d (eW mate)), some (.d (.bool due)), none, none, none]) (s_set 11 ok3 (q_and (q_cv (c_eqI (q_len B.len (q_ix (q_v 7 ⟨_, rfl, ⟨_, rfl, q_int ⟨_, _, rfl, rfl, ⟨_, rfl, ⟨_, rfl, q_len B.len (q_ix (q_v 10 ⟨_, rfl, ⟨_, rfl, q_int ⟨_, _, rfl, rfl, ⟨_, rfl, ⟨_, rfl, ⟨_, rfl, fun hb => q_one ?_, fun hb => ⟨rfl, ?_⟩⟩⟩⟩⟩⟩⟩))⟩⟩⟩⟩⟩))))))) ?_
  · have hb := of_decide_eq_true hb
    rw [List.length_map, List.length_map] at hb
    have he : core.passes.length = mate.passes.length := by omega
    exact q_call G__law_ak_meet (hr.mono (by decide)) (qa_cons (q_v 3 ⟨_, rfl, qa_cons (q_v 7 ⟨_, rfl, qa_cons (q_v 10 ⟨_, rfl, qa_nil ⟨rfl, ⟨rooms, ds, core, mate, rfl, hs, ⟨cr1, cr2⟩, he, ⟨hpos he, by omega⟩, fun hd => ⟨rfl, true, ⟨fun _ => ⟨he, hd⟩, fun _ => rfl⟩, rfl⟩, fun hd => ⟨rfl, false, ⟨fun q => (nomatch q), fun q => absurd q.2 hd⟩, rfl⟩⟩⟩⟩)⟩)⟩))
  · have hb := of_decide_eq_false hb
    rw [List.length_map, List.length_map] at hb
    exact ⟨false, ⟨fun q => (nomatch q), fun q => absurd (by omega) hb⟩, rfl⟩
  rintro ν7 Γ' ⟨due, hdue, rfl⟩
  refine r_cons (s_forN [12, 13] ok3 (pgs_cons (pg_name (i := 12) ok3.nd rfl (.inl rfl)) (pgs_cons (pg_name (i := 13) ok3.nd rfl (.inl rfl)) (pgs_nil))) (qi_lst (q_lst (qa_cons (q_tup (qa_cons (q_v 5 ⟨_, rfl, qa_cons (q_v 8 ⟨_, rfl, qa_nil ⟨_, rfl, by simp, qa_cons (q_tup (qa_cons (q_v 8 ⟨_, rfl, qa_cons (q_v 5 ⟨_, rfl, qa_nil ⟨_, rfl, by simp, qa_nil ⟨_, rfl, by simp, fun p => ⟨_, rfl, rfl, ⟨fun _ => trivial, fun i Γ => ∃ x12 x13 x14 : Option Sl, Γ = [none, some .s, some (.d (eI rooms)), some (.d (eDs ds)), some (.h rooms (eDs ds)), some (.d (eW one)), some (.d (eW lead1)), some (.d (eW core)), some (.d (eW other)), some (.d (eW lead2)), some (.d (eW mate)), some (.d (.bool due)), x12, x13, x14], ⟨_, _, _, rfl⟩, fun i d Γ hd iv => ?_, fun Γ iv => ?_⟩⟩⟩⟩⟩)⟩)))⟩⟩)⟩)))))))
  · obtain ⟨x12, x13, x14, rfl⟩ := iv
    obtain ⟨l, r, rfl, hwl, hwr, hrl, hrr, hll, hlr, hne2, h62, hdue2⟩ : ∃ l r : Walk, d = .tuple [eW l, eW r] ∧ WOk ds l l.room ∧ WOk ds r r.room ∧ (0 ≤ l.room ∧ l.room < rooms) ∧ (0 ≤ r.room ∧ r.room < rooms) ∧ l.passes.length ≤ 12 ∧ r.passes.length ≤ 12 ∧ ¬ ((coreW ds l).passes = [] ∧ (coreW ds r).passes = []) ∧
        ((coreW ds l).passes.length = (coreW ds r).passes.length → (coreW ds l).passes.length ≤ 6) ∧ (due = true ↔ (coreW ds l).passes.length = (coreW ds r).passes.length ∧ Due ds (coreW ds l) (coreW ds r)) := by
      match i, hd with
      | 0, hd =>
        cases hd
        exact ⟨one, other, rfl, ho', hw2, hon, hr2, by omega, by omega, by rw [← hcore, ← hmate]; exact hne, by rw [← hcore]; omega, by rw [← hcore, ← hmate]; exact hdue⟩
      | 1, hd =>
        cases hd
        refine ⟨other, one, rfl, hw2, ho', hr2, hon, by omega, by omega, ?_, ?_, ?_⟩
        · rw [← hcore, ← hmate]
          exact fun h => hne ⟨h.2, h.1⟩
        · rw [← hcore, ← hmate]
          omega
        · rw [← hcore, ← hmate]
          exact ⟨fun q => ⟨(hdue.mp q).1.symm, Due.symm hz cr1.pl cr2.pl cr1.ok cr2.ok (hdue.mp q).1 (hdue.mp q).2⟩, fun q => hdue.mpr ⟨q.1.symm, Due.symm hz cr2.pl cr1.pl cr2.ok cr1.ok q.1 q.2⟩⟩
      | i + 2, hd => cases hd
    refine ⟨[eW l, eW r], rfl, rfl, fun gh => ?_⟩
    have ok4 := ok3.push gh
    refine r_cons (s_set 14 ok4 (q_call G_lead_between (hr.mono (by decide)) (qa_cons (q_v 4 ⟨_, rfl, qa_cons (q_v 12 ⟨_, rfl, qa_cons (q_v 13 ⟨_, rfl, qa_nil ⟨rfl, ⟨rooms, ds, l, r, rfl, hs, ⟨hwl, hwr⟩, ⟨hrl, hrr⟩, ⟨by omega, by omega⟩, hne2, h62, fun hno => ⟨rfl, ?_⟩, fun found he hdu hfl hf hfr hev => ⟨rfl, ?_⟩⟩⟩⟩)⟩)⟩))))
    · have hd0 : due = false := by
        cases due with
        | false => rfl
        | true => exact absurd (hdue2.mp rfl) hno
      subst hd0
      refine r_cons (s_ifF (qt_cv (c_eqB (q_cv (c_isN (q_v 14 ⟨_, rfl, ⟨_, rfl, rfl, ⟨_, rfl, q_v 11 ⟨_, rfl, ⟨_, rfl, ⟨_, rfl, ⟨rfl, ?_⟩⟩⟩⟩⟩⟩⟩))))))
      exact r_one (s_ifF (qt_w (qw_andF1 (qt_v (q_v 11 ⟨_, rfl, ⟨_, rfl, ⟨rfl, ⟨rfl, rfl, _, _, _, rfl⟩⟩⟩⟩)))))
    · have hd1 : due = true := hdue2.mpr ⟨he, hdu⟩
      subst hd1
      refine r_cons (s_ifF (qt_cv (c_eqB (q_cv (c_isN (q_v 14 ⟨_, rfl, ⟨_, rfl, rfl, ⟨_, rfl, q_v 11 ⟨_, rfl, ⟨_, rfl, ⟨_, rfl, ⟨rfl, ?_⟩⟩⟩⟩⟩⟩⟩))))))
      exact r_one (s_ifF (qt_w (qw_andT (qt_v (q_v 11 ⟨_, rfl, ⟨_, rfl, ⟨rfl, qw_and1 (qt_notF (qt_v (q_call G__law_ak_is_lead (hr.mono (by decide)) (qa_cons (q_v 3 ⟨_, rfl, qa_cons (q_v 2 ⟨_, rfl, qa_cons (q_v 12 ⟨_, rfl, qa_cons (q_v 13 ⟨_, rfl, qa_cons (q_v 14 ⟨_, rfl, qa_nil ⟨rfl, ⟨rooms, ds, l, r, found, rfl, hs, ⟨hwl, hwr⟩, hrl, ⟨by omega, by omega, by omega⟩, hf, hfr, hev, ⟨_, rfl, ⟨rfl, ⟨rfl, _, _, _, rfl⟩⟩⟩⟩⟩⟩)⟩)⟩)⟩)⟩)))))⟩⟩⟩)))))
  · obtain ⟨x12, x13, x14, rfl⟩ := iv
    exact r_one (s_ret (q_bl ⟨rfl, rfl⟩))
end PF


namespace Hd
open PySem PySem.Spec PyProof.Rows L2 QL PR PF
section
variable {P : Program} {w : World} {K : PySem.W.Frag} {h : Heap} {mg : Str → Option Value}
theorem at_of (X : K.In h) (G : h.Ns mainGlobals mg) (c : Says K) (i : Nat) {x : Str} {n : Nat} (e : defs[i]? = some (x, n)) : At K mg x (topS n) := by
  obtain ⟨fd, F⟩ := c.d.defs (d := dd (x, n)) (List.mem_cons_of_mem _ (List.mem_map.mpr ⟨_, List.mem_of_getElem? e, rfl⟩))
  exact ⟨_, fd, F, He.glo_ok X G (c.d.facts (f := .glo x) (List.mem_append_right _ (List.mem_map.mpr ⟨_, List.mem_of_getElem? e, rfl⟩)))⟩
theorem fa_of (c : Says K) (i : Nat) {f : He.Fa} (e : fa0[i]? = some f) : f.ok K = true := c.d.facts (List.mem_append_left _ (List.mem_of_getElem? e))
theorem facts (X : K.In h) (G : h.Ns mainGlobals mg) (c : Says K) {f : Addr} (hf : mg ("law" : Str) = some (.ref f)) :
    ∃ fd : FuncData, (∀ (s : Shared) (v : Value), BindsTo s fd ⟨[v], []⟩ [("_law_script", v)]) ∧ ∀ base : Heap, K.In base → base.Ns mainGlobals mg → FnOk P w K mg base CX0 9 f fd ["_law_script"] (spLaw K) := by
  obtain ⟨e1, e2⟩ := He.ba (show ((decide (PySem.W.findIn K (.ref (He.ga K "House")) "__class__" = some (some (.builtin "object.__class__"))) && decide (PySem.W.specialIn K (.builtin "object.__class__") "__get__" = some (some (.builtin "getset_descriptor.__get__")))) && ((decide (PySem.W.takesIn K (.builtin "object.__class__") = some true) && decide (PySem.W.mroIn K (He.ga K "House") (.type "object") = some true)) && (decide (PySem.W.kitOne K (.ref (He.ga K "House")) (.ref (He.ga K "House")) = some true) && decide (PySem.W.nsIn K mainGlobals "gcd" = some (some (.builtin "math.gcd")))))) = true from c.more)
  obtain ⟨a1, a2⟩ := He.ba e1
  obtain ⟨e3, e4⟩ := He.ba e2
  obtain ⟨a3, a4⟩ := He.ba e3
  obtain ⟨a5, a6⟩ := He.ba e4
  have HF : HouseF K (He.ga K "House") := ⟨He.cls_ok (fa_of c 1 rfl), of_decide_eq_true a1, of_decide_eq_true a2, of_decide_eq_true a3, of_decide_eq_true a4, of_decide_eq_true a5, He.noat_ok (fa_of c 2 rfl), He.noat_ok (fa_of c 3 rfl)⟩
  have T : Tx K mg (He.ga K "House") := ⟨PySem.W.mg_of X G (of_decide_eq_true a6), He.glo_ok X G (fa_of c 0 rfl), He.int_ok X G (fa_of c 5 rfl), He.int_ok X G (fa_of c 6 rfl), He.int_ok X G (fa_of c 7 rfl), He.int_ok X G (fa_of c 8 rfl)⟩
  have B : Bi mg := ⟨He.free_ok X G (fa_of c 9 rfl), He.free_ok X G (fa_of c 10 rfl), He.free_ok X G (fa_of c 11 rfl), He.free_ok X G (fa_of c 12 rfl), He.free_ok X G (fa_of c 13 rfl), He.free_ok X G (fa_of c 14 rfl), He.free_ok X G (fa_of c 15 rfl), He.free_ok X G (fa_of c 16 rfl), He.free_ok X G (fa_of c 17 rfl), He.free_ok X G (fa_of c 18 rfl), He.free_ok X G (fa_of c 19 rfl), He.free_ok X G (fa_of c 20 rfl)⟩
  have MK := He.mkr_ok (fa_of c 4 rfl)
  obtain ⟨fi, FI⟩ := c.d.defs (d := dInit) List.mem_cons_self
  obtain ⟨f2, fd, F, hm⟩ := at_of X G c 71 (x := "law") (n := 117) rfl
  have e := hf.symm.trans hm
  cases e
  have b := FunD.bindsA (ps := ["_law_script"]) F fun _ _ _ _ _ _ us hl => match us, hl with | [_], _ => rfl
  refine ⟨fd, fun s v => b s [v] rfl, fun base _ _ => ?_⟩
  have G_is_number := ok_is_number (P := P) (w := w) (base := base) (at_of X G c 0 (x := "is_number") (n := 12) rfl) B T HF
  have G_is_below := ok_is_below (P := P) (w := w) (base := base) (at_of X G c 1 (x := "is_below") (n := 13) rfl) B T HF G_is_number
  have G_is_door := ok_is_door (P := P) (w := w) (base := base) (at_of X G c 2 (x := "is_door") (n := 20) rfl) B T HF G_is_below G_is_number
  have G_are_numbers := ok_are_numbers (P := P) (w := w) (base := base) (at_of X G c 3 (x := "are_numbers") (n := 14) rfl) B T HF G_is_number
  have G_are_doors := ok_are_doors (P := P) (w := w) (base := base) (at_of X G c 4 (x := "are_doors") (n := 21) rfl) B T HF G_is_door
  have G_need_house := ok_need_house (P := P) (w := w) (base := base) (at_of X G c 5 (x := "need_house") (n := 24) rfl) B T HF
  have G_is_pass := ok_is_pass (P := P) (w := w) (base := base) (at_of X G c 6 (x := "is_pass") (n := 25) rfl) B T HF G_is_below
  have G_gate_of := ok_gate_of (P := P) (w := w) (base := base) (at_of X G c 7 (x := "gate_of") (n := 26) rfl) B T HF
  have G_are_steps := ok_are_steps (P := P) (w := w) (base := base) (at_of X G c 8 (x := "are_steps") (n := 28) rfl) B T HF G_gate_of G_is_pass
  have G_is_walk_of := ok_is_walk_of (P := P) (w := w) (base := base) (at_of X G c 9 (x := "is_walk_of") (n := 29) rfl) B T HF G_are_numbers G_are_steps G_is_below
  have G_need_walk := ok_need_walk (P := P) (w := w) (base := base) (at_of X G c 10 (x := "need_walk") (n := 30) rfl) B T HF G_is_walk_of
  have G_end_for := ok_end_for (P := P) (w := w) (base := base) (at_of X G c 11 (x := "end_for") (n := 31) rfl) B T HF G_gate_of
  have G_need_home := ok_need_home (P := P) (w := w) (base := base) (at_of X G c 12 (x := "need_home") (n := 32) rfl) B T HF G_end_for G_need_walk
  have G_join_of := ok_join_of (P := P) (w := w) (base := base) (at_of X G c 13 (x := "join_of") (n := 33) rfl) B T HF
  have G_back_of := ok_back_of (P := P) (w := w) (base := base) (at_of X G c 14 (x := "back_of") (n := 34) rfl) B T HF G_end_for
  have G_standing_in := ok_standing_in (P := P) (w := w) (base := base) (at_of X G c 15 (x := "standing_in") (n := 35) rfl) B T HF
  have G_reverses := ok_reverses (P := P) (w := w) (base := base) (at_of X G c 16 (x := "reverses") (n := 58) rfl) B T HF
  have G_is_multiple := ok_is_multiple (P := P) (w := w) (base := base) (at_of X G c 17 (x := "is_multiple") (n := 59) rfl) B T HF
  have G_carry := ok_carry (P := P) (w := w) (base := base) (at_of X G c 18 (x := "carry") (n := 60) rfl) B T HF G_gate_of
  have G_cancel := ok_cancel (P := P) (w := w) (base := base) (at_of X G c 19 (x := "cancel") (n := 61) rfl) B T HF
  have G_turns_back := ok_turns_back (P := P) (w := w) (base := base) (at_of X G c 20 (x := "turns_back") (n := 62) rfl) B T HF G_reverses
  have G_spots_of := ok_spots_of (P := P) (w := w) (base := base) (at_of X G c 21 (x := "spots_of") (n := 63) rfl) B T HF G_gate_of G_is_multiple G_turns_back
  have G_times_to_shorten := ok_times_to_shorten (P := P) (w := w) (base := base) (at_of X G c 22 (x := "times_to_shorten") (n := 64) rfl) B T HF G_gate_of
  have G_times_to_fit := ok_times_to_fit (P := P) (w := w) (base := base) (at_of X G c 23 (x := "times_to_fit") (n := 65) rfl) B T HF G_gate_of
  have G_plain_with_moves := ok_plain_with_moves (P := P) (w := w) (base := base) (at_of X G c 24 (x := "plain_with_moves") (n := 66) rfl) B T HF G_cancel G_carry G_spots_of G_times_to_fit G_times_to_shorten
  have G_plain_of := ok_plain_of (P := P) (w := w) (base := base) (at_of X G c 25 (x := "plain_of") (n := 67) rfl) B T HF G_plain_with_moves
  have G_shuts := ok_shuts (P := P) (w := w) (base := base) (at_of X G c 26 (x := "shuts") (n := 69) rfl) B T HF G_gate_of G_is_multiple G_reverses
  have G_inner_walk := ok_inner_walk (P := P) (w := w) (base := base) (at_of X G c 27 (x := "inner_walk") (n := 70) rfl) B T HF G_gate_of
  have G_core_with_lead := ok_core_with_lead (P := P) (w := w) (base := base) (at_of X G c 28 (x := "core_with_lead") (n := 71) rfl) B T HF G_inner_walk G_join_of G_plain_of G_shuts G_standing_in
  have G_begun_later := ok_begun_later (P := P) (w := w) (base := base) (at_of X G c 29 (x := "begun_later") (n := 72) rfl) B T HF G_gate_of G_join_of
  have G_solved := ok_solved (P := P) (w := w) (base := base) (at_of X G c 30 (x := "solved") (n := 15) rfl) B T HF
  have G_ends_slopes := ok_ends_slopes (P := P) (w := w) (base := base) (at_of X G c 31 (x := "ends_slopes") (n := 76) rfl) B T HF
  have G_row_of_pulls := ok_row_of_pulls (P := P) (w := w) (base := base) (at_of X G c 32 (x := "row_of_pulls") (n := 75) rfl) B T HF G_gate_of G_solved
  have G_rows_joining := ok_rows_joining (P := P) (w := w) (base := base) (at_of X G c 33 (x := "rows_joining") (n := 77) rfl) B T HF G_ends_slopes G_row_of_pulls
  have G_gone_lead := ok_gone_lead (P := P) (w := w) (base := base) (at_of X G c 34 (x := "gone_lead") (n := 80) rfl) B T HF G_begun_later G_plain_of G_rows_joining
  have G_lead_between := ok_lead_between (P := P) (w := w) (base := base) (at_of X G c 35 (x := "lead_between") (n := 81) rfl) B T HF G_back_of G_core_with_lead G_gone_lead G_join_of G_need_home G_need_house G_plain_of
  have G__law_blended := ok__law_blended (P := P) (w := w) (base := base) (at_of X G c 36 (x := "_law_blended") (n := 84) rfl) B T HF
  have G__law_draw := ok__law_draw (P := P) (w := w) (base := base) (at_of X G c 37 (x := "_law_draw") (n := 85) rfl) B T HF G__law_blended
  have G__law_pick := ok__law_pick (P := P) (w := w) (base := base) (at_of X G c 38 (x := "_law_pick") (n := 86) rfl) B T HF G__law_draw
  have G__law_mixed := ok__law_mixed (P := P) (w := w) (base := base) (at_of X G c 39 (x := "_law_mixed") (n := 87) rfl) B T HF G__law_draw
  have G__law_is_whole := ok__law_is_whole (P := P) (w := w) (base := base) (at_of X G c 40 (x := "_law_is_whole") (n := 88) rfl) B T HF
  have G__law_gate := ok__law_gate (P := P) (w := w) (base := base) (at_of X G c 41 (x := "_law_gate") (n := 89) rfl) B T HF
  have G__law_end := ok__law_end (P := P) (w := w) (base := base) (at_of X G c 42 (x := "_law_end") (n := 94) rfl) B T HF G__law_gate
  have G__law_joined := ok__law_joined (P := P) (w := w) (base := base) (at_of X G c 43 (x := "_law_joined") (n := 96) rfl) B T HF
  have G__law_sides := ok__law_sides (P := P) (w := w) (base := base) (at_of X G c 44 (x := "_law_sides") (n := 91) rfl) B T HF
  have G__law_steps := ok__law_steps (P := P) (w := w) (base := base) (at_of X G c 45 (x := "_law_steps") (n := 90) rfl) B T HF G__law_gate G__law_sides
  have G__law_pulls := ok__law_pulls (P := P) (w := w) (base := base) (at_of X G c 46 (x := "_law_pulls") (n := 92) rfl) B T HF G__law_draw G__law_gate
  have G__law_back := ok__law_back (P := P) (w := w) (base := base) (at_of X G c 47 (x := "_law_back") (n := 97) rfl) B T HF G__law_end
  have G__law_bare := ok__law_bare (P := P) (w := w) (base := base) (at_of X G c 48 (x := "_law_bare") (n := 98) rfl) B T HF
  have G__law_plain := ok__law_plain (P := P) (w := w) (base := base) (at_of X G c 49 (x := "_law_plain") (n := 100) rfl) B T HF G__law_gate
  have G__law_is_walk := ok__law_is_walk (P := P) (w := w) (base := base) (at_of X G c 50 (x := "_law_is_walk") (n := 101) rfl) B T HF G__law_gate G__law_is_whole
  have G__law_ak_closed := ok__law_ak_closed (P := P) (w := w) (base := base) (at_of X G c 51 (x := "_law_ak_closed") (n := 104) rfl) B T HF G__law_joined
  have G__law_ak_led := ok__law_ak_led (P := P) (w := w) (base := base) (at_of X G c 52 (x := "_law_ak_led") (n := 105) rfl) B T HF G__law_ak_closed G__law_back
  have G__law_ak_turns := ok__law_ak_turns (P := P) (w := w) (base := base) (at_of X G c 53 (x := "_law_ak_turns") (n := 107) rfl) B T HF G__law_ak_led G__law_back G__law_plain
  have G__law_ak_core := ok__law_ak_core (P := P) (w := w) (base := base) (at_of X G c 54 (x := "_law_ak_core") (n := 106) rfl) B T HF G__law_ak_led G__law_back G__law_gate G__law_joined G__law_plain
  have G__law_ak_is_lead := ok__law_ak_is_lead (P := P) (w := w) (base := base) (at_of X G c 55 (x := "_law_ak_is_lead") (n := 111) rfl) B T HF G__law_ak_led G__law_end G__law_is_walk G__law_plain
  have G__law_ak_row := ok__law_ak_row (P := P) (w := w) (base := base) (at_of X G c 56 (x := "_law_ak_row") (n := 108) rfl) B T HF G__law_gate
  have G__law_ak_rows := ok__law_ak_rows (P := P) (w := w) (base := base) (at_of X G c 57 (x := "_law_ak_rows") (n := 109) rfl) B T HF G__law_ak_row G__law_plain
  have G__law_ak_meet := ok__law_ak_meet (P := P) (w := w) (base := base) (at_of X G c 58 (x := "_law_ak_meet") (n := 110) rfl) B T HF G__law_ak_rows G__law_ak_turns
  have G__law_ak_size := ok__law_ak_size (P := P) (w := w) (base := base) (at_of X G c 59 (x := "_law_ak_size") (n := 102) rfl) B T HF G__law_pick
  have G__law_strolled := ok__law_strolled (P := P) (w := w) (base := base) (at_of X G c 60 (x := "_law_strolled") (n := 93) rfl) B T HF G__law_draw G__law_gate G__law_pick G__law_pulls G__law_steps
  have G__law_ak_lead := ok__law_ak_lead (P := P) (w := w) (base := base) (at_of X G c 61 (x := "_law_ak_lead") (n := 112) rfl) B T HF G__law_strolled
  have G__law_k37_bent := ok__law_k37_bent (P := P) (w := w) (base := base) (at_of X G c 62 (x := "_law_k37_bent") (n := 115) rfl) B T HF G__law_draw G__law_pick
  have G__law_way := ok__law_way (P := P) (w := w) (base := base) (at_of X G c 63 (x := "_law_way") (n := 95) rfl) B T HF G__law_gate G__law_steps
  have G__law_homing := ok__law_homing (P := P) (w := w) (base := base) (at_of X G c 64 (x := "_law_homing") (n := 99) rfl) B T HF G__law_back G__law_bare G__law_draw G__law_end G__law_joined G__law_pick G__law_strolled G__law_way
  have G__law_ak_round := ok__law_ak_round (P := P) (w := w) (base := base) (at_of X G c 65 (x := "_law_ak_round") (n := 113) rfl) B T HF G__law_bare G__law_draw G__law_gate G__law_joined G__law_pick G__law_steps G__law_way
  have G__law_ak_home := ok__law_ak_home (P := P) (w := w) (base := base) (at_of X G c 66 (x := "_law_ak_home") (n := 114) rfl) B T HF G__law_ak_round G__law_draw G__law_homing
  have G__law_ak_doors := ok__law_ak_doors (P := P) (w := w) (base := base) (at_of X G c 67 (x := "_law_ak_doors") (n := 103) rfl) B T HF G__law_ak_size G__law_draw G__law_mixed
  have G_joined_rooms := ok_joined_rooms (P := P) (w := w) (base := base) (at_of X G c 68 (x := "joined_rooms") (n := 22) rfl) B T HF
  have G__law_k37_other := ok__law_k37_other (P := P) (w := w) (base := base) (at_of X G c 69 (x := "_law_k37_other") (n := 116) rfl) B T HF G__law_ak_home G__law_ak_lead G__law_ak_led G__law_ak_turns G__law_back G__law_draw G__law_k37_bent G__law_pick
  obtain ⟨fb, fdb, Fb, mb⟩ := at_of X G c 70 (x := "_law_begun") (n := 83) rfl
  exact ok_law F B T HF ⟨fb, fdb, ok_begun Fb B, mb, Fb.kp, Fb.bindsN fun _ _ _ _ _ _ us hl => match us, hl with | [_], _ => rfl⟩
    ⟨_, fi, MK, ok_init FI B T HF G_is_number G_are_doors G_joined_rooms, FI.bindsN fun _ _ _ _ _ _ us hl => match us, hl with | [_, _, _], _ => rfl⟩ G__law_draw G__law_ak_doors G__law_ak_home G__law_ak_core G__law_k37_other G__law_ak_meet G_lead_between G__law_ak_is_lead
end
end Hd
open PySem PySem.W PySem.Calls PyProof.Rows
set_option maxHeartbeats 0 in
theorem PySem.Challenge.cw_pulledrooms_k37_whole_walks_that_go_alik_holds : PySem.Challenge.rw_pulledrooms_k37_whole_walks_that_go_alik.Holds := by
  w_on; o_law
  refine HandSHeadRun.head_imp (r := OpenLaw.row PySem.Challenge.rw_pulledrooms_k37_whole_walks_that_go_alik) (q := view (OpenLaw.row PySem.Challenge.rw_pulledrooms_k37_whole_walks_that_go_alik).prog Hd.vw) (H := Hd.hk) (ob := Hd.ob) (M := 6000) (loose := Hd.lo) (d := HandSHeadRun.topDef (OpenLaw.row PySem.Challenge.rw_pulledrooms_k37_whole_walks_that_go_alik).prog 117) (kwd := []) Hd.ob_eq
    Hd.run (by kernel_rfl) (by kernel_rfl) (by kernel_rfl) (by rfl) (by first | assumption | decide +kernel) (by decide +kernel) ⟨rfl, rfl, rfl, rfl, rfl, by decide +kernel⟩ ?hw ?hc
  case hw => w_witness2
  case hc =>
    refine L2.walk_ofE (l := PySem.Challenge.rw_pulledrooms_k37_whole_walks_that_go_alik) (n := 63) (k := 9) (x := "_law_script") (CX := L2.CX0) rfl (by decide) (by kernel_rfl) ⟨rfl, by decide, by decide⟩ ?F (fun _ _ _ _ z => z)
    intro w mg fa h Y G hmg0
    obtain ⟨K, KX, c⟩ := Y
    have hmg : mg ("law" : PySem.Str) = some (.ref fa) := by
      have e : (HandSHeadRun.topDef (OpenLaw.row PySem.Challenge.rw_pulledrooms_k37_whole_walks_that_go_alik).prog 117).name = ("law" : PySem.Str) := by kernel_rfl
      rw [← e]
      exact hmg0
    obtain ⟨fd, hb, hF⟩ := Hd.facts (P := (PySem.Challenge.rw_pulledrooms_k37_whole_walks_that_go_alik).prog) (w := w) KX G c hmg
    exact ⟨K, fd, PF.spLaw K, KX, hb, fun H a ns hl _ hS => ⟨a, ns, rfl, hS, hl, fun _ => rfl⟩, hF⟩

