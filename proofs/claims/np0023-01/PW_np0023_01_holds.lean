import PyProof.Rows.All
import Wide.All
import OpenK.AllK
import Wide.FinOn
import Lean
import PySem.Challenge.RW_np0023_01
open PySem PySem.W PyProof.Rows PySem.Calls PySem.Spec
set_option Elab.async false
set_option compiler.extract_closed false
set_option maxRecDepth 100000
set_option maxHeartbeats 8000000
namespace Mine
section
local macro_rules | `(tactic| k_head) => `(tactic| z_head)
open_top hd for PySem.Challenge.rw_np0023_01
end
/-- the objects that the law reaches, by address -/
noncomputable def heapK : Params → Frag := fun P =>
  (nat_lit 2, hd.o_549 P) :: (nat_lit 3, hd.o_603 P) :: (nat_lit 15, hd.o_446 P) :: (nat_lit 16, hd.o_447 P) :: (nat_lit 17, hd.o_448 P) ::
  (nat_lit 18, hd.o_449 P) :: (nat_lit 19, hd.o_450 P) :: (nat_lit 20, hd.o_451 P) :: (nat_lit 21, hd.o_452 P) :: (nat_lit 22, hd.o_453 P) ::
  (nat_lit 23, hd.o_454 P) :: (nat_lit 24, hd.o_455 P) :: (nat_lit 25, hd.o_456 P) :: (nat_lit 26, hd.o_457 P) :: (nat_lit 27, hd.o_458 P) ::
  (nat_lit 28, hd.o_459 P) :: (nat_lit 29, hd.o_460 P) :: (nat_lit 30, hd.o_461 P) :: (nat_lit 31, hd.o_462 P) :: (nat_lit 32, hd.o_463 P) ::
  (nat_lit 34, hd.o_465 P) :: (nat_lit 35, hd.o_466 P) :: (nat_lit 36, hd.o_467 P) :: (nat_lit 37, hd.o_468 P) :: (nat_lit 38, hd.o_469 P) ::
  (nat_lit 39, hd.o_470 P) :: (nat_lit 40, hd.o_475 P) :: (nat_lit 41, hd.o_476 P) :: (nat_lit 42, hd.o_477 P) :: (nat_lit 43, hd.o_478 P) ::
  (nat_lit 44, hd.o_479 P) :: (nat_lit 45, hd.o_480 P) :: (nat_lit 46, hd.o_481 P) :: (nat_lit 47, hd.o_482 P) :: (nat_lit 48, hd.o_483 P) ::
  (nat_lit 49, hd.o_484 P) :: (nat_lit 50, hd.o_485 P) :: (nat_lit 51, hd.o_486 P) :: (nat_lit 52, hd.o_487 P) :: (nat_lit 53, hd.o_488 P) ::
  (nat_lit 54, hd.o_489 P) :: (nat_lit 55, hd.o_490 P) :: (nat_lit 56, hd.o_491 P) :: (nat_lit 57, hd.o_492 P) :: (nat_lit 58, hd.o_493 P) ::
  (nat_lit 59, hd.o_494 P) :: (nat_lit 60, hd.o_495 P) :: (nat_lit 61, hd.o_496 P) :: (nat_lit 62, hd.o_497 P) :: (nat_lit 63, hd.o_498 P) ::
  (nat_lit 64, hd.o_499 P) :: (nat_lit 65, hd.o_500 P) :: (nat_lit 66, hd.o_501 P) :: (nat_lit 67, hd.o_502 P) :: (nat_lit 68, hd.o_503 P) ::
  (nat_lit 69, hd.o_504 P) :: (nat_lit 70, hd.o_505 P) :: (nat_lit 71, hd.o_506 P) :: (nat_lit 72, hd.o_507 P) :: (nat_lit 73, hd.o_508 P) ::
  (nat_lit 74, hd.o_509 P) :: (nat_lit 75, hd.o_510 P) :: (nat_lit 76, hd.o_511 P) :: (nat_lit 77, hd.o_512 P) :: (nat_lit 78, hd.o_513 P) ::
  (nat_lit 79, hd.o_514 P) :: (nat_lit 80, hd.o_515 P) :: (nat_lit 81, hd.o_516 P) :: (nat_lit 82, hd.o_517 P) :: (nat_lit 83, hd.o_518 P) ::
  (nat_lit 84, hd.o_519 P) :: (nat_lit 85, hd.o_520 P) :: (nat_lit 86, hd.o_521 P) :: (nat_lit 88, hd.o_523 P) :: (nat_lit 89, hd.o_524 P) ::
  (nat_lit 91, hd.o_526 P) :: (nat_lit 92, hd.o_527 P) :: (nat_lit 93, hd.o_528 P) :: (nat_lit 95, hd.o_530 P) :: (nat_lit 96, hd.o_531 P) ::
  (nat_lit 98, hd.o_533 P) :: (nat_lit 99, hd.o_534 P) :: (nat_lit 100, hd.o_535 P) :: (nat_lit 102, hd.o_537 P) :: (nat_lit 103, hd.o_538 P) ::
  (nat_lit 105, hd.o_540 P) :: (nat_lit 106, hd.o_541 P) :: (nat_lit 107, hd.o_542 P) :: (nat_lit 109, hd.o_544 P) :: (nat_lit 110, hd.o_545 P) ::
  (nat_lit 112, hd.o_547 P) :: (nat_lit 113, hd.o_548 P) :: (nat_lit 114, hd.o_552 P) :: (nat_lit 121, hd.o_559 P) :: (nat_lit 123, hd.o_561 P) ::
  (nat_lit 124, hd.o_562 P) :: (nat_lit 126, hd.o_564 P) :: (nat_lit 127, hd.o_565 P) :: (nat_lit 128, hd.o_566 P) :: (nat_lit 129, hd.o_567 P) ::
  (nat_lit 130, hd.o_568 P) :: (nat_lit 131, hd.o_569 P) :: (nat_lit 134, hd.o_572 P) :: (nat_lit 136, hd.o_574 P) :: (nat_lit 137, hd.o_575 P) ::
  (nat_lit 139, hd.o_577 P) :: (nat_lit 140, hd.o_578 P) :: (nat_lit 141, hd.o_579 P) :: (nat_lit 144, hd.o_582 P) :: (nat_lit 145, hd.o_583 P) ::
  (nat_lit 146, hd.o_584 P) :: (nat_lit 148, hd.o_586 P) :: (nat_lit 149, hd.o_587 P) :: (nat_lit 151, hd.o_589 P) :: (nat_lit 152, hd.o_590 P) ::
  (nat_lit 153, hd.o_591 P) :: (nat_lit 155, hd.o_593 P) :: (nat_lit 156, hd.o_594 P) :: (nat_lit 158, hd.o_596 P) :: (nat_lit 159, hd.o_597 P) ::
  (nat_lit 160, hd.o_598 P) :: (nat_lit 163, hd.o_601 P) :: (nat_lit 164, hd.o_602 P) :: (nat_lit 165, hd.o_605 P) :: (nat_lit 168, hd.o_608 P) ::
  (nat_lit 169, hd.o_609 P) :: (nat_lit 170, hd.o_610 P) :: (nat_lit 172, hd.o_612 P) :: (nat_lit 173, hd.o_613 P) :: (nat_lit 175, hd.o_615 P) ::
  (nat_lit 176, hd.o_616 P) :: (nat_lit 177, hd.o_617 P) :: (nat_lit 179, hd.o_619 P) :: (nat_lit 180, hd.o_620 P) :: (nat_lit 182, hd.o_622 P) ::
  (nat_lit 183, hd.o_623 P) :: (nat_lit 184, hd.o_624 P) :: (nat_lit 186, hd.o_626 P) :: (nat_lit 187, hd.o_627 P) :: (nat_lit 189, hd.o_629 P) ::
  (nat_lit 190, hd.o_630 P) :: (nat_lit 191, hd.o_631 P) :: (nat_lit 193, hd.o_633 P) :: (nat_lit 194, hd.o_634 P) :: (nat_lit 196, hd.o_636 P) ::
  (nat_lit 197, hd.o_637 P) :: (nat_lit 198, hd.o_638 P) :: (nat_lit 201, hd.o_641 P) :: (nat_lit 202, hd.o_642 P) :: []
theorem in_subL {K : Frag} {h : Heap} (p : Addr → Bool) : ∀ (K' : Frag), (∀ a o, (K'.filter fun q => p q.1).lookup a = some o → K'.lookup a = some o)
  | [], a, o, e => nomatch e
  | (b, o') :: K', a, o, e => by
    by_cases hab : a = b
    · subst hab
      cases hb : p a with
      | true => simpa [List.filter_cons, hb] using e
      | false =>
        exfalso
        rw [List.filter_cons_of_neg (by simp [hb])] at e
        clear h K
        induction K' with
        | nil => cases e
        | cons q K' ih =>
          obtain ⟨c, x⟩ := q
          cases hc : p c with
          | true =>
            rw [List.filter_cons_of_pos (by simpa using hc)] at e
            have : a ≠ c := fun q => by rw [q, hc] at hb; cases hb
            simp only [List.lookup_cons, beq_eq_false_iff_ne.mpr this] at e
            exact ih e
          | false =>
            rw [List.filter_cons_of_neg (by simp [hc])] at e
            exact ih e
    · have hb' : (a == b) = false := beq_eq_false_iff_ne.mpr hab
      rw [List.lookup_cons, hb']
      refine in_subL (K := K) (h := h) p K' a o ?_
      cases hb : p b with
      | true =>
        rw [List.filter_cons_of_pos (by simpa using hb), List.lookup_cons, hb'] at e
        exact e
      | false =>
        rw [List.filter_cons_of_neg (by simp [hb])] at e
        exact e
theorem in_sub {K K' : Frag} {h : Heap} (p : Addr → Bool) (e : K' = K.filter fun q => p q.1) (x : K.In h) : K'.In h := by
  subst e
  exact fun a o e => x a o (in_subL (K := K) (h := h) p K a o e)
theorem heapK_of {P : Params} {h : Heap} (x : (Mine.hd.heap_232 P).In h) : (heapK P).In h := in_sub (fun a => ([2, 3, 15, 16, 17, 18, 19, 20, 21, 22, 23, 24, 25, 26, 27, 28, 29, 30, 31, 32, 34, 35, 36, 37, 38, 39, 40, 41, 42, 43, 44, 45, 46, 47, 48, 49, 50, 51, 52, 53, 54, 55, 56, 57, 58, 59, 60, 61, 62, 63, 64, 65, 66, 67, 68, 69, 70, 71, 72, 73, 74, 75, 76, 77, 78, 79, 80, 81, 82, 83, 84, 85, 86, 88, 89, 91, 92, 93, 95, 96, 98, 99, 100, 102, 103, 105, 106, 107, 109, 110, 112, 113, 114, 121, 123, 124, 126, 127, 128, 129, 130, 131, 134, 136, 137, 139, 140, 141, 144, 145, 146, 148, 149, 151, 152, 153, 155, 156, 158, 159, 160, 163, 164, 165, 168, 169, 170, 172, 173, 175, 176, 177, 179, 180, 182, 183, 184, 186, 187, 189, 190, 191, 193, 194, 196, 197, 198, 201, 202] : List Nat).elem a) (by kernel_rfl) x
theorem fillK : (fun (_ : PySem.W.OpenLaw) (_ : Params → Frag) => True) PySem.Challenge.rw_np0023_01 heapK := by
  k_fill
  trivial

noncomputable abbrev PP : Program := PySem.Challenge.pw_np0023_01

/-- what stands in h, but for the addresses of mu, stands in h' -/
def Kept (mu : List Addr) (h h' : Heap) : Prop := ∀ b o, h.get? b = some o → b ∉ mu → h'.get? b = some o
theorem Kept.refl {mu : List Addr} (h : Heap) : Kept mu h h := fun _ _ e _ => e
theorem Kept.trans {mu : List Addr} {h₁ h₂ h₃ : Heap} (a : Kept mu h₁ h₂) (b : Kept mu h₂ h₃) : Kept mu h₁ h₃ := fun x o e n => b x o (a x o e n) n
theorem Kept.all {h h' : Heap} (k : Kept [] h h') : ∀ b o, h.get? b = some o → h'.get? b = some o := fun b o e => k b o e (by simp)
theorem Kept.weak {mu nu : List Addr} {h h' : Heap} (k : Kept mu h h') (s : ∀ a ∈ mu, a ∈ nu) : Kept nu h h' := fun b o e n => k b o e fun q => n (s b q)

theorem news_kept {h₀ h h' : Heap} {L : Addr} {news : List (Addr × Obj)} (N : News h₀ L h news) (k : ∀ b o, h.get? b = some o → h'.get? b = some o) : News h₀ L h' news :=
  fun p hp => ⟨k _ _ (N p hp).1, (N p hp).2⟩
theorem fr_kept {h₀ h h' : Heap} {L : Addr} {m : Str → Option Value} (F : Fr h₀ L h m) (k : ∀ b o, h.get? b = some o → h'.get? b = some o) : Fr h₀ L h' m := F.keeps k

section
variable {prog : Program} {w : World} {A₀ A : Around} {s : Shared} {base h₀ : Heap} {outer : List Env} {L : Addr} {m mg mb : Str → Option Value} {env : Env} {news : List (Addr × Obj)} {K : Frag} {p : Program} {loose : List Str} {mean : ExcName → Option Value}
  {R : Result → Shared → Prop} {name qual : Str} {params : Arguments} {body : List Stmt} {scope : Scope} {cl : List (Str × Addr)} {dV kV doc pm cdv ct oc : Value} {an od : Option Addr} {osl : Array (Option Value)} {f : Addr} {args : Args} {binds : List (Str × Value)}

theorem code_defM (B : Below A₀ base outer h₀) (F : Fr h₀ L s.heap m) (X₀ : K.In h₀) (N : News h₀ L s.heap news) (T : Top p loose mean mg mb h₀) (hA : A.frames = some (env :: outer)) (hf : env.frame = some L) (hke : env.scope.kind = .function)
    (ho : K.lookup f = some ⟨oc, od, .func (fnOf name qual params body scope dV kV doc pm an cdv ct), osl⟩) (hcd : codeIn K cdv qual = true) (hroom : A.depth < recursionLimit)
    (hbind : BindsTo s (fnOf name qual params body scope dV kV doc pm an cdv ct) args binds) (hloc : ∀ y ∈ binds, scope.names.lookup y.1 = some .local)
    (h : ∀ g L' h₁ tk, Kept (news.map (·.1)) s.heap g → (∀ b o, g.get? b = some o → s.heap.get? b = some o) → L' = s.heap.objs.size → Fr h₀ L g m → Fr g L' h₁ (fun y => binds.reverse.lookup y) → News g L' h₁ news → Below A base (env :: outer) g → K.In g → Top p loose mean mg mb g →
      wpAny (model prog w) (A.deeper (envOf qual scope L' f cdv)) (execs body (envOf qual scope L' f cdv))
        (fun fl s' => LeaveK h₀ L m g R (match fl with | .ret v => v | _ => .none) s')
        (fun e s' => wpAny (model prog w) (A.deeper (envOf qual scope L' f cdv)) (leaving (envOf qual scope L' f cdv) e) (fun _ s'' => R (.error e) s'') (fun e' s'' => R (.error e') s'') s')
        { s with heap := h₁, toks := tk })
    (hco : scope.isCoroutine = false) (hgen : scope.isGenerator = false) (hk : scope.kind = .function)
    (hcell : ∀ x ∈ scope.names, x.2 ≠ .cell) : codeAny (model prog w) A (.call (.ref f) args) R s := by
  obtain ⟨FG, BG, st, lv⟩ := groundX (R := R) B F N hA hf hke
  refine codeAny_call_def (fd := fnX name qual params body scope [] dV kV doc pm an cdv ct) (body := body) (binds := binds) hroom ((X₀.keeps F.keep) _ _ ho) rfl (T.nolimit.keeps F.keep) (codeRec_of (X₀.keeps F.keep) hcd) rfl hbind hcell hloc (fun h₁ hns hk₁ => ?_) hco hgen hk
  exact wpAny_mono (h _ s.heap.objs.size h₁ _ (fun b o e n => hideAll_get _ e n) (fun b o e => of_hideAll _ e) rfl FG ⟨hns, fun b o e => hk₁ b o (of_hideAll _ e), Nat.le_of_eq (hideAll_size _ _)⟩
    (fun p hp => ⟨hk₁ _ _ (N p hp).1, Nat.ne_of_lt (Heap.lt_size (N p hp).1), hideAll_none _ (List.mem_map_of_mem hp)⟩) BG (X₀.keeps st) (T.keeps st)) (fun fl s' hl => lv _ _ hl) fun _ _ y => y
end

/-- the walk stops here -/
def Stop (P : Prop) : Prop := P
theorem Stop.of {P : Prop} (h : P) : Stop P := h
theorem Stop.out {P : Prop} (h : Stop P) : P := h
theorem fold_ {α : Type} {M : Model} {A : Around} {c : Sem α} {Q : α → Shared → Prop} {E : Value → Shared → Prop} {s : Shared} (h : wpAny M A c Q E s) : wpAny M A c Q E s := h
theorem rm_ {d k m n R : Nat} (h : d + n < R) (e : Nat.ble (k + m) n = true) : d + k + m < R := by
  have := Nat.le_of_ble_eq_true e
  omega
theorem rm0_ {d n R : Nat} (h : d + n < R) : d < R := by omega
theorem rm1_ {d m n R : Nat} (h : d + n < R) (e : Nat.ble m n = true) : d + m < R := by
  have := Nat.le_of_ble_eq_true e
  omega
theorem le_ {a n m : Nat} (h : a ≤ n) (e : Nat.ble n m = true) : a ≤ m := Nat.le_trans h (Nat.le_of_ble_eq_true e)
theorem le1_ {a k n m : Nat} (h : a ≤ n) (e : Nat.ble (n + k) m = true) : a + k ≤ m := Nat.le_trans (Nat.add_le_add_right h k) (Nat.le_of_ble_eq_true e)
theorem le2_ {a j k n m : Nat} (h : a ≤ n) (e : Nat.ble (n + j + k) m = true) : a + j + k ≤ m := le1_ (Nat.add_le_add_right h j) e
theorem nlt_ {a n : Nat} {m : Int} (h : a ≤ n) (e : decide ((n : Int) < m) = true) : (a : Int) < m := Int.lt_of_le_of_lt (Int.ofNat_le.mpr h) (of_decide_eq_true e)
theorem nle_ {a n : Nat} {m : Int} (h : a ≤ n) (e : decide ((n : Int) ≤ m) = true) : (a : Int) ≤ m := Int.le_trans (Int.ofNat_le.mpr h) (of_decide_eq_true e)
theorem nge_ {a : Nat} {m : Int} (e : decide (m ≤ 0) = true) : m ≤ (a : Int) := Int.le_trans (of_decide_eq_true e) (Int.natCast_nonneg a)
theorem ngt_ {a : Nat} {m : Int} (e : decide (m < 0) = true) : m < (a : Int) := Int.lt_of_lt_of_le (of_decide_eq_true e) (Int.natCast_nonneg a)
theorem ncl_ {a b : Nat} (h : a < b) : (a : Int) < (b : Int) := Int.ofNat_lt.mpr h
theorem nce_ {a b : Nat} (h : a ≤ b) : (a : Int) ≤ (b : Int) := Int.ofNat_le.mpr h
theorem ile_ {a n m : Int} (h : a ≤ n) (e : decide (n ≤ m) = true) : a ≤ m := Int.le_trans h (of_decide_eq_true e)
theorem ile1_ {a k n m : Int} (h : a ≤ n) (e : decide (n + k ≤ m) = true) : a + k ≤ m := Int.le_trans (Int.add_le_add_right h k) (of_decide_eq_true e)
theorem ilt_ {a n m : Int} (h : a < n) (e : decide (n ≤ m) = true) : a < m := Int.lt_of_lt_of_le h (of_decide_eq_true e)
theorem ill_ {a n m : Int} (h : a < n) (e : decide (n ≤ m) = true) : a ≤ m := Int.le_of_lt (ilt_ h e)
theorem i0_ {a k : Int} (h : 0 ≤ a) (e : decide (0 ≤ k) = true) : 0 ≤ a + k := Int.add_nonneg h (of_decide_eq_true e)
theorem igt_ {a m : Int} (h : 0 ≤ a) (e : decide (m < 0) = true) : m < a := Int.lt_of_lt_of_le (of_decide_eq_true e) h
theorem i1_ {a : Int} (h : 1 ≤ a) : 0 < a := h
theorem an0_ {a b : Nat} {P : Prop} (h : a < b ∧ P) : a < b := h.1
theorem an1_ {a b : Nat} {X0 : Prop} {P : Prop} (h : X0 ∧ a < b ∧ P) : a < b := h.2.1
theorem al1_ {a b : Nat} {X0 : Prop} (h : X0 ∧ a < b) : a < b := h.2
theorem an2_ {a b : Nat} {X0 X1 : Prop} {P : Prop} (h : X0 ∧ X1 ∧ a < b ∧ P) : a < b := h.2.2.1
theorem al2_ {a b : Nat} {X0 X1 : Prop} (h : X0 ∧ X1 ∧ a < b) : a < b := h.2.2
theorem an3_ {a b : Nat} {X0 X1 X2 : Prop} {P : Prop} (h : X0 ∧ X1 ∧ X2 ∧ a < b ∧ P) : a < b := h.2.2.2.1
theorem al3_ {a b : Nat} {X0 X1 X2 : Prop} (h : X0 ∧ X1 ∧ X2 ∧ a < b) : a < b := h.2.2.2
theorem an4_ {a b : Nat} {X0 X1 X2 X3 : Prop} {P : Prop} (h : X0 ∧ X1 ∧ X2 ∧ X3 ∧ a < b ∧ P) : a < b := h.2.2.2.2.1
theorem al4_ {a b : Nat} {X0 X1 X2 X3 : Prop} (h : X0 ∧ X1 ∧ X2 ∧ X3 ∧ a < b) : a < b := h.2.2.2.2
theorem an5_ {a b : Nat} {X0 X1 X2 X3 X4 : Prop} {P : Prop} (h : X0 ∧ X1 ∧ X2 ∧ X3 ∧ X4 ∧ a < b ∧ P) : a < b := h.2.2.2.2.2.1
theorem al5_ {a b : Nat} {X0 X1 X2 X3 X4 : Prop} (h : X0 ∧ X1 ∧ X2 ∧ X3 ∧ X4 ∧ a < b) : a < b := h.2.2.2.2.2

local macro_rules | `(tactic| walk_at "call ref") => `(tactic| (refine Stop.out ?_))
local macro_rules | `(tactic| walk_at "call type:enumerate") => `(tactic| (refine Stop.out ?_))
local macro_rules | `(tactic| walk_at "call builtin:str.split") => `(tactic| (refine Stop.out ?_))
local macro_rules | `(tactic| walk_at "exec For Tuple Call cons nil") => `(tactic| ((with_reducible rename Fr _ _ _ _ => kF); with_unfolding_all refine For_turns kF ?_))
local macro_rules | `(tactic| k_room) => `(tactic| ((try simp only [ktrTop, depth_under_make, depth_under_kw, depth_in1, depth_deeper, depth_caller]); omega))
local macro_rules | `(tactic| k_units) => `(tactic| ((try simp only [ktrTop, units_in1, units_deeper, Around.mark_units, units_caller]); omega))
local macro_rules | `(tactic| walk_at "LeaveK") => `(tactic| (refine Stop.out ?_))
local macro_rules | `(tactic| walk_at "execs cons") => `(tactic| (refine fold_ ?_; k_fold))
local macro_rules | `(tactic| walk_at "ANDS") => `(tactic| first | assumption | exact an0_ (by assumption) | exact an1_ (by assumption) | exact al1_ (by assumption) | exact an2_ (by assumption) | exact al2_ (by assumption) | exact an3_ (by assumption) | exact al3_ (by assumption) | exact an4_ (by assumption) | exact al4_ (by assumption) | exact an5_ (by assumption) | exact al5_ (by assumption))
local macro_rules | `(tactic| walk_at "LIN") => `(tactic| (k_whole; with_reducible first | assumption | decide | exact Ne.symm (by assumption) | (refine Nat.ne_of_lt ?_; walk_at "ANDS") | (refine Nat.ne_of_gt ?_; walk_at "ANDS") | exact rm0_ (by assumption) | exact ncl_ (by assumption) | exact nce_ (by assumption) | exact nge_ (by decide) | exact ngt_ (by decide) | exact le_ (by assumption) (by decide) | exact le1_ (by assumption) (by decide) | exact nlt_ (by assumption) (by decide) | exact nle_ (by assumption) (by decide) | exact ile_ (by assumption) (by decide) | exact ile1_ (by assumption) (by decide) | exact ilt_ (by assumption) (by decide) | exact ill_ (by assumption) (by decide) | exact i0_ (by assumption) (by decide) | exact igt_ (by assumption) (by decide) | exact rm_ (by assumption) (by decide) | exact rm1_ (by assumption) (by decide) | exact le2_ (by assumption) (by decide)))
local macro_rules | `(tactic| omega) => `(tactic| first | walk_at "LIN" | lia | omega +splitDisjunctions)

noncomputable abbrev potObj (l : Addr) (at_ st : Int) (t u : Tok) (n : Nat) : Obj := listOf #[.ref l, .int at_ t, .int st u] n

theorem int_ne_pot {l : Addr} {at_ st : Int} {t u : Tok} {n n' : Nat} {vs : List Value} {ns : List Int} (hi : IntsAre vs ns) (e : listOf vs.toArray n' = potObj l at_ st t u n) : False := by
  have e1 : vs = [Value.ref l, .int at_ t, .int st u] := by
    have := congrArg (fun o : Obj => match o.data with | .seq xs _ => xs.toList | _ => []) e
    simpa using this
  rw [e1] at hi
  cases hi

theorem pot_back {h₀ g h h' : Heap} {L L' p l : Addr} {m m' : Str → Option Value} {news led : List (Addr × Obj)} {gf : Obj → List (Addr × Obj)} {ol o o' : Obj}
  (F : Fr h₀ L h m) (N : News h₀ L h news) (U : UpdF p o news gf) (hl : (l, ol) ∈ news) (hpl : @Ne Nat p l)
  (hG : Kept [p, l] h g) (F' : Fr g L' h' m') (N' : News g L' h' led) (m1 : (p, o') ∈ led) (m2 : (l, ol) ∈ led) :
  Kept [p] h h' ∧ News h₀ L h' (gf o') ∧ ∀ q oq, (q, oq) ∈ led → @Ne Nat p q → @Ne Nat l q → h.get? q = none ∧ News h₀ L h' ((q, oq) :: gf o') := by
  obtain ⟨pre, post, hnews, hgf, hpre, hpost⟩ := U.split
  have hpm : (p, o) ∈ news := by rw [hnews]; exact List.mem_append_right _ (.head _)
  have hK : Kept [p] h h' := by
    intro b ob e hb
    by_cases hbl : b = l
    · subst hbl
      have e2 := (N _ hl).1
      dsimp only at e2
      rw [e2] at e
      rw [← e]
      exact (N' _ m2).1
    · refine F'.keep b ob (hG b ob e ?_)
      simp only [List.mem_cons, List.not_mem_nil, or_false] at hb ⊢
      exact fun hq => hq.elim hb hbl
  have hN : News h₀ L h' (gf o') := by
    rw [hgf]
    intro q hq
    rcases List.mem_append.mp hq with hq | hq
    · have hqn : q ∈ news := by rw [hnews]; exact List.mem_append_left _ hq
      exact ⟨hK _ _ (N _ hqn).1 (by simpa using hpre q hq), (N _ hqn).2⟩
    · rcases List.mem_cons.mp hq with rfl | hq
      · exact ⟨(N' _ m1).1, (N _ hpm).2⟩
      · have hqn : q ∈ news := by rw [hnews]; exact List.mem_append_right _ (.tail _ hq)
        exact ⟨hK _ _ (N _ hqn).1 (by simpa using hpost q hq), (N _ hqn).2⟩
  refine ⟨hK, hN, fun q oq hq h1 h2 => ?_⟩
  have hnone : h.get? q = none := by
    cases e : h.get? q with
    | none => rfl
    | some ob =>
      have := hG q ob e (by simp only [List.mem_cons, List.not_mem_nil, or_false]; exact fun z => z.elim (fun z => h1 z.symm) (fun z => h2 z.symm))
      rw [(N' _ hq).2.2] at this
      cases this
  refine ⟨hnone, fun r hr => ?_⟩
  rcases List.mem_cons.mp hr with rfl | hr
  · refine ⟨(N' _ hq).1, fun z => ?_, ?_⟩
    · obtain ⟨oL, es, ep, hL, _⟩ := F.ns
      dsimp only at z
      rw [z, hL] at hnone
      cases hnone
    · cases e : h₀.get? q with
      | none => rfl
      | some ob => have := F.keep q ob e; rw [hnone] at this; cases this
  · exact hN r hr

theorem dip_spec {prog : Program} {w : World} {dp un : Nat} {gd : Option (List Code)} {cn : Str} {cs : Scope} {a : Addr} {ccd : Value} {cl : List (Str × Addr)} {outer : List Env} {A₀ : Around} {base h₀ : Heap} {L : Addr} {m : Str → Option Value} {s : Shared} {Q E : Value → Shared → Prop} {loose : List Str} {mean : ExcName → Option Value} {mg mb : Str → Option Value}
  {p l : Addr} {at_ st many : Int} {t u v : Tok} {n n' : Nat} {vs : List Value} {ns : List Int} {news : List (Addr × Obj)} {gf : Obj → List (Addr × Obj)}
  (B : Below A₀ base outer h₀) (F : Fr h₀ L s.heap m) (X : (Mine.heapK w.params).In h₀) (N : News h₀ L s.heap news) (T : Top Mine.hd.view_433 loose mean mg mb h₀) (hk : cs.kind = .function)
  (hd : dp + 8 < recursionLimit) (hu : un + 100 < cLine)
  (U : UpdF p (potObj l at_ st t u n) news gf) (hl : (l, listOf vs.toArray n') ∈ news) (hi : IntsAre vs ns) (hlen : ns.length ≤ 63) (h1 : 0 ≤ at_) (h2 : at_ ≤ 1000000) (h3 : 0 ≤ st) (h4 : st ≤ 1000000) (hm1 : 1 ≤ many) (hm2 : many ≤ 1000000)
  (ret : ∀ h' tk' k t' st' t1 t2, 0 ≤ k → k < many → 0 ≤ st' → st' ≤ 1000000 → Kept [p] s.heap h' → Fr h₀ L h' m → News h₀ L h' (gf (potObj l (at_ + 1) st' t1 t2 n)) → Q (.int k t') { s with heap := h', toks := tk' }) :
  wpAny (model prog w) (ktrTop dp un gd cn cs L a ccd cl outer) (call (.ref 176) [.ref p, .int many v]) Q E s := by
  obtain ⟨pre, post, hnews, hgf, hpre, hpost⟩ := U.split
  have hpm : (p, potObj l at_ st t u n) ∈ news := by rw [hnews]; exact List.mem_append_right _ (.head _)
  have hpl : @Ne Nat p l := by
    intro e
    have e1 := (N _ hpm).1
    have e2 := (N _ hl).1
    dsimp only at e1 e2
    rw [e, e2] at e1
    exact int_ne_pot hi (Option.some.inj e1)
  have N2 : News h₀ L s.heap [(p, potObj l at_ st t u n), (l, listOf vs.toArray n')] := by
    intro q hq
    rcases List.mem_cons.mp hq with rfl | hq
    · exact N _ hpm
    · rw [List.mem_singleton.mp hq]; exact N _ hl
  refine wpAny_call ?_
  k_dflt (refine' code_defM (binds := [(Str.ofString "pot", .ref p), (Str.ofString "many", .int many v)]) ?k1 ?k2 ?k3 ?k4 ?k5 ?kA ?kF ?kK ?k6 ?k7 ?k8 ?k9 ?kB ?_ ?c2 ?c3 ?c4 ?c5; (case kA => exact rfl); (case kF => exact rfl); (case kK => assumption); (case k1 => k_asm); (case k2 => k_asm); (case k3 => k_asm); (case k4 => exact N2); (case k5 => k_asm); (case k6 => k_is); (case k7 => k_is); (case k8 => k_room); (case k9 => exact BindsTo.of_eq rfl); (case c5 => decide); (case kB => exact locs rfl); (case c2 => exact rfl); (case c3 => exact rfl); (case c4 => exact rfl); k_whole)
  intro g L' h' tk hG hG' hL' FG' F' N' B' X' T'
  have fin := fun h' m' o' (F' : Fr g L' h' m') (N' : News g L' h' [(p, o'), (l, listOf vs.toArray n')]) => pot_back F N U hl hpl hG F' N' (.head _) (.tail _ (.head _))
  clear F N N2 B X T U hpm hl hG'
  (try dsimp only)
  k_steps
  all_goals (
    refine Stop.of (leaveK_ (by assumption) (by assumption) ?_)
    intro FF NN
    obtain ⟨q1, q2, _⟩ := fin _ _ _ (by assumption) (by assumption)
    refine ret _ _ _ _ _ _ _ ?_ ?_ ?_ ?_ q1 FF q2)
  all_goals (try (first | omega | exact Int.fmod_nonneg_of_pos _ (by omega) | exact Int.fmod_lt_of_pos _ (by omega)))
  all_goals (have q9 := Int.fmod_lt_of_pos (st * 75 + 74) (show (0 : Int) < 65537 by omega); omega)


noncomputable abbrev sCONSTANT : Str := Str.ofString "constant"
noncomputable abbrev sSYMBOL : Str := Str.ofString "symbol"
noncomputable abbrev sCOUNT : Str := Str.ofString "count"
noncomputable abbrev sPLACE : Str := Str.ofString "place"
noncomputable abbrev sPLAIN : Str := Str.ofString "plain"
noncomputable abbrev sNONE : Str := Str.ofString "none"
noncomputable def sortTab : List (Str × Str) := [
  (Str.ofString "const", sCONSTANT), (Str.ofString "varref", sSYMBOL), (Str.ofString "varset", sSYMBOL), (Str.ofString "varbind", sSYMBOL), (Str.ofString "unbind", sCOUNT),
  (Str.ofString "dup", sNONE), (Str.ofString "discard", sNONE), (Str.ofString "stackref", sCOUNT), (Str.ofString "call", sCOUNT), (Str.ofString "plain", sPLAIN), (Str.ofString "return", sNONE),
  (Str.ofString "goto", sPLACE), (Str.ofString "gotoifnil", sPLACE), (Str.ofString "gotoifnonnil", sPLACE), (Str.ofString "gotoifnilelsepop", sPLACE), (Str.ofString "gotoifnonnilelsepop", sPLACE),
  (Str.ofString "pushcatch", sPLACE), (Str.ofString "pushcondition", sPLACE), (Str.ofString "pophandler", sNONE), (Str.ofString "protect", sNONE), (Str.ofString "saveexcursion", sNONE),
  (Str.ofString "saverestriction", sNONE), (Str.ofString "savecurrentbuffer", sNONE)]
noncomputable def sortOf (x : Str) : Option Str := sortTab.lookup x
noncomputable def isJump (x : Str) : Bool := sortOf x == some sPLACE

theorem lookup_mem {α β : Type} [BEq α] [LawfulBEq α] {l : List (α × β)} {x : α} {y : β} (h : l.lookup x = some y) : (x, y) ∈ l := by
  induction l with
  | nil => cases h
  | cons p r ih =>
    obtain ⟨a, b⟩ := p
    rw [List.lookup_cons] at h
    split at h
    · rename_i e
      cases h
      rw [eq_of_beq e]
      exact .head _
    · exact .tail _ (ih h)
theorem sort_short {x y : Str} (h : sortOf x = some y) : x.length ≤ 30 := by
  have q : ∀ p ∈ sortTab, p.1.length ≤ 30 := by decide +kernel
  exact q _ (lookup_mem h)
def RowHit (w : World) (x y : Str) : Prop := ∃ a tk rest, nsIn (Mine.heapK w.params) 15 x = some (some (.ref a)) ∧ (Mine.heapK w.params).lookup a = some ⟨.type "tuple", none, .seq (Value.str y tk :: rest).toArray 0, #[]⟩
noncomputable def entStr (e : DictEntry) : Option Str := match e.key with
  | .str y _ => some y
  | _ => none
noncomputable def entRef (e : DictEntry) : Addr := match e.val with
  | .ref a => a
  | _ => 0
noncomputable def rowPart (o : Option Obj) : Tok × List Value := match o with
  | some o => match o.data with
    | .seq ⟨.str _ t :: r⟩ _ => (t, r)
    | _ => (0, [])
  | none => (0, [])
noncomputable def rowsEs (w : World) : List DictEntry := match (Mine.heapK w.params).lookup 15 with
  | some o => match o.data with
    | .dict es _ => es.toList
    | _ => []
  | none => []
theorem rows_at (w : World) : ∃ n, (Mine.heapK w.params).lookup 15 = some ⟨.type "dict", none, .dict (rowsEs w).toArray n, #[]⟩ := ⟨_, by rfl⟩
theorem rows_keys (w : World) : (rowsEs w).map entStr = sortTab.map fun p => some p.1 := by rfl
theorem rows_vals (w : World) : (rowsEs w).map (fun e => e.val) = (rowsEs w).map (fun e => Value.ref (entRef e)) := by rfl
theorem rows_rows (w : World) : (rowsEs w).map (fun e => (Mine.heapK w.params).lookup (entRef e)) = (sortTab.zip ((rowsEs w).map fun e => rowPart ((Mine.heapK w.params).lookup (entRef e)))).map fun p => some ⟨.type "tuple", none, .seq (Value.str p.1.2 p.2.1 :: p.2.2).toArray 0, #[]⟩ := by rfl
theorem rows_noref (w : World) : (rowsEs w).any (·.refKey) = false := by rfl
theorem find_str (x : Str) : ∀ {es : List DictEntry} {tab : List (Str × Str)}, es.map entStr = tab.map (fun p => some p.1) →
    (tab.lookup x = none → es.find? (·.key.isStr x) = none) ∧ ∀ y, tab.lookup x = some y → ∃ (i : Nat) (e : DictEntry) (z : Str), es.find? (·.key.isStr x) = some e ∧ es[i]? = some e ∧ tab[i]? = some (z, y)
  | [], [], _ => ⟨fun _ => rfl, fun _ h => by cases h⟩
  | [], _ :: _, h => by cases h
  | _ :: _, [], h => by cases h
  | e :: es, p :: tab, h => by
    obtain ⟨h1, h2⟩ := List.cons.inj h
    obtain ⟨r1, r2⟩ := find_str x h2
    have hk : e.key.isStr x = (x == p.1) := by
      unfold entStr at h1
      split at h1
      · rename_i q
        rw [q, ← Option.some.inj h1]
        exact BEq.comm
      · cases h1
    rw [List.lookup_cons]
    cases hb : x == p.1 with
    | true =>
      refine ⟨fun h => (by cases h), fun y h => ⟨0, e, p.1, ?_, rfl, ?_⟩⟩
      · rw [List.find?_cons_of_pos (by rw [hk, hb])]
      · cases h; rfl
    | false =>
      have hf : List.find? (·.key.isStr x) (e :: es) = List.find? (·.key.isStr x) es := List.find?_cons_of_neg (by rw [hk, hb]; exact Bool.false_ne_true)
      rw [hf]
      exact ⟨r1, fun y h => let ⟨i, e', z, g1, g2, g3⟩ := r2 y h; ⟨i + 1, e', z, g1, g2, g3⟩⟩
theorem rows_ns (w : World) (x : Str) : nsIn (Mine.heapK w.params) 15 x = (match (rowsEs w).find? (·.key.isStr x) with | some e => some (some e.val) | none => some none) := by
  obtain ⟨n, hn⟩ := rows_at w
  unfold nsIn
  rw [hn]
  show (match (rowsEs w).find? (·.key.isStr x) with | some e => some (some e.val) | none => if (rowsEs w).any (·.refKey) = true then none else some none) = _
  cases List.find? (fun e => e.key.isStr x) (rowsEs w) with
  | some e => rfl
  | none =>
    dsimp only
    rw [if_neg (by rw [rows_noref]; exact Bool.false_ne_true)]
theorem row_hit (w : World) {x y : Str} (h : sortOf x = some y) : RowHit w x y := by
  obtain ⟨i, e, z, h1, h2, h3⟩ := (find_str x (rows_keys w)).2 y h
  have v := congrArg (fun l => l[i]?) (rows_vals w)
  have r := congrArg (fun l => l[i]?) (rows_rows w)
  simp only [List.getElem?_map, h2, Option.map_some] at v r
  have r' : (sortTab.zip ((rowsEs w).map fun e => rowPart ((Mine.heapK w.params).lookup (entRef e))))[i]? = some ((z, y), rowPart ((Mine.heapK w.params).lookup (entRef e))) :=
    List.getElem?_zip_eq_some.mpr ⟨h3, by rw [List.getElem?_map, h2]; rfl⟩
  rw [r'] at r
  exact ⟨entRef e, _, _, by rw [rows_ns, h1]; exact congrArg some v, Option.some.inj r⟩
theorem row_miss (w : World) {x : Str} (h : sortOf x = none) : nsIn (Mine.heapK w.params) 15 x = some none := by
  rw [rows_ns, (find_str x (rows_keys w)).1 h]

theorem seqIndex_zero {α : Type} {v : α} {l : List α} : seqIndex? 0 (v :: l).length = some 0 := by
  unfold seqIndex?
  simp

section
local macro_rules | `(tactic| walk_at "subscriptTail") => `(tactic| ((with_reducible show wpAny _ _ (subscriptTail _ _ (Value.ref 15) (Value.str _ _)) _ _ _); refine Stop.out ?_))
local macro_rules | `(tactic| walk_at "subscriptTail") => `(tactic| ((with_reducible show wpAny _ _ (subscriptTail (PySem.Expr.Subscript (PySem.Expr.Name (Str.ofString "ROWS") _) _ _) _ _ _) _ _ _); refine Stop.out ?_))
theorem sort_of_spec {prog : Program} {w : World} {dp un : Nat} {gd : Option (List Code)} {cn : Str} {cs : Scope} {a : Addr} {ccd : Value} {cl : List (Str × Addr)} {outer : List Env} {A₀ : Around} {base h₀ : Heap} {L : Addr} {m : Str → Option Value} {s : Shared} {Q E : Value → Shared → Prop} {loose : List Str} {mean : ExcName → Option Value} {mg mb : Str → Option Value}
  {x y : Str} {t : Tok} {news : List (Addr × Obj)}
  (B : Below A₀ base outer h₀) (F : Fr h₀ L s.heap m) (X : (Mine.heapK w.params).In h₀) (N : News h₀ L s.heap news) (T : Top Mine.hd.view_433 loose mean mg mb h₀) (hk : cs.kind = .function)
  (hd : dp + 8 < recursionLimit) (hx : sortOf x = some y)
  (ret : ∀ h' tk' t', Kept [] s.heap h' → Fr h₀ L h' m → News h₀ L h' news → Q (.str y t') { s with heap := h', toks := tk' }) :
  wpAny (model prog w) (ktrTop dp un gd cn cs L a ccd cl outer) (call (.ref 99) [.str x t]) Q E s := by
  obtain ⟨ra, rt, rr, hr1, hr2⟩ := row_hit w hx
  refine wpAny_call ?_
  k_dflt (refine' code_defM (binds := [(Str.ofString "word", .str x t)]) ?k1 ?k2 ?k3 ?k4 ?k5 ?kA ?kF ?kK ?k6 ?k7 ?k8 ?k9 ?kB ?_ ?c2 ?c3 ?c4 ?c5; (case kA => exact rfl); (case kF => exact rfl); (case kK => assumption); (case k1 => k_asm); (case k2 => k_asm); (case k3 => k_asm); (case k4 => exact News.nil); (case k5 => k_asm); (case k6 => k_is); (case k7 => k_is); (case k8 => k_room); (case k9 => exact BindsTo.of_eq rfl); (case c5 => decide); (case kB => exact locs rfl); (case c2 => exact rfl); (case c3 => exact rfl); (case c4 => exact rfl); k_whole)
  intro g L' h' tk hG hG' hL' FG' F' N' B' X' T'
  have kept : ∀ (h' : Heap) L' m', Fr g L' h' m' → Kept [] s.heap h' ∧ Fr h₀ L h' m ∧ News h₀ L h' news := fun h' L' m' F' =>
    have k : Kept [] s.heap h' := fun b o e n => F'.keep b o (hG b o e n)
    ⟨k, fr_kept F k.all, news_kept N k.all⟩
  clear F N B X T
  (try dsimp only)
  k_steps
  refine Stop.of ?_
  k_dflt (refine topItem_K (by k_asm) (by k_asm) (by k_is) (by k_keys) (by assumption) ?_)
  k_steps
  refine Stop.of ?_
  k_dflt (refine topTup_K (by k_asm) (by k_asm) (by assumption) (by decide) (by decide) (by exact seqIndex_zero) (by rfl) ?_)
  k_steps
  refine Stop.of (leaveK_ (by assumption) (by assumption) ?_)
  intro _ _
  obtain ⟨k1, k2, k3⟩ := kept _ _ _ (by assumption)
  exact ret _ _ _ k1 k2 k3

theorem is_jump_spec {prog : Program} {w : World} {dp un : Nat} {gd : Option (List Code)} {cn : Str} {cs : Scope} {a : Addr} {ccd : Value} {cl : List (Str × Addr)} {outer : List Env} {A₀ : Around} {base h₀ : Heap} {L : Addr} {m : Str → Option Value} {s : Shared} {Q E : Value → Shared → Prop} {loose : List Str} {mean : ExcName → Option Value} {mg mb : Str → Option Value}
  {x y : Str} {t : Tok} {news : List (Addr × Obj)}
  (B : Below A₀ base outer h₀) (F : Fr h₀ L s.heap m) (X : (Mine.heapK w.params).In h₀) (N : News h₀ L s.heap news) (T : Top Mine.hd.view_433 loose mean mg mb h₀) (hk : cs.kind = .function)
  (hd : dp + 8 < recursionLimit) (hx : sortOf x = some y)
  (ret : ∀ h' tk', Kept [] s.heap h' → Fr h₀ L h' m → News h₀ L h' news → Q (.bool (isJump x)) { s with heap := h', toks := tk' }) :
  wpAny (model prog w) (ktrTop dp un gd cn cs L a ccd cl outer) (call (.ref 106) [.str x t]) Q E s := by
  obtain ⟨ra, rt, rr, hr1, hr2⟩ := row_hit w hx
  refine wpAny_call ?_
  k_dflt (refine' code_defM (binds := [(Str.ofString "word", .str x t)]) ?k1 ?k2 ?k3 ?k4 ?k5 ?kA ?kF ?kK ?k6 ?k7 ?k8 ?k9 ?kB ?_ ?c2 ?c3 ?c4 ?c5; (case kA => exact rfl); (case kF => exact rfl); (case kK => assumption); (case k1 => k_asm); (case k2 => k_asm); (case k3 => k_asm); (case k4 => exact News.nil); (case k5 => k_asm); (case k6 => k_is); (case k7 => k_is); (case k8 => k_room); (case k9 => exact BindsTo.of_eq rfl); (case c5 => decide); (case kB => exact locs rfl); (case c2 => exact rfl); (case c3 => exact rfl); (case c4 => exact rfl); k_whole)
  intro g L' h' tk hG hG' hL' FG' F' N' B' X' T'
  have kept : ∀ (h' : Heap) L' m', Fr g L' h' m' → Kept [] s.heap h' ∧ Fr h₀ L h' m ∧ News h₀ L h' news := fun h' L' m' F' =>
    have k : Kept [] s.heap h' := fun b o e n => F'.keep b o (hG b o e n)
    ⟨k, fr_kept F k.all, news_kept N k.all⟩
  clear F N B X T
  (try dsimp only)
  k_steps
  refine Stop.of ?_
  k_dflt (refine topItem_K (by k_asm) (by k_asm) (by k_is) (by k_keys) (by assumption) ?_)
  k_steps
  refine Stop.of ?_
  k_dflt (refine topTup_K (by k_asm) (by k_asm) (by assumption) (by decide) (by decide) (by exact seqIndex_zero) (by rfl) ?_)
  k_steps
  have e9 : isJump x = (y == Str.ofString "place") := by unfold isJump; rw [hx]; rfl
  rw [e9] at ret
  refine Stop.of (leaveK_ (by assumption) (by assumption) ?_)
  intro _ _
  obtain ⟨k1, k2, k3⟩ := kept _ _ _ (by assumption)
  exact ret _ _ k1 k2 k3
end


def InsOk (many : Int) (i : Str × Int) : Prop :=
  ((i.1 = Str.ofString "goto" ∨ i.1 = Str.ofString "gotoifnil" ∨ i.1 = Str.ofString "pushcatch") ∧ 0 ≤ i.2 ∧ i.2 < many) ∨
  (i.1 = Str.ofString "plain" ∧ 0 ≤ i.2 ∧ i.2 < 45) ∨
  ((i.1 = Str.ofString "dup" ∨ i.1 = Str.ofString "return") ∧ i.2 = -1) ∨
  ((i.1 = Str.ofString "const" ∨ i.1 = Str.ofString "varbind" ∨ i.1 = Str.ofString "call") ∧ 0 ≤ i.2 ∧ i.2 < 12)

noncomputable abbrev tupObj (x : Str) (k : Int) (t u : Tok) : Obj := { cls := .type "tuple", data := .seq #[.str x t, .int k u] }

section

theorem line_spec {prog : Program} {w : World} {dp un : Nat} {gd : Option (List Code)} {cn : Str} {cs : Scope} {a : Addr} {ccd : Value} {cl : List (Str × Addr)} {outer : List Env} {A₀ : Around} {base h₀ : Heap} {L : Addr} {m : Str → Option Value} {s : Shared} {Q E : Value → Shared → Prop} {loose : List Str} {mean : ExcName → Option Value} {mg mb : Str → Option Value}
  {p l : Addr} {at_ st many : Int} {t u v : Tok} {n n' : Nat} {vs : List Value} {ns : List Int} {news : List (Addr × Obj)} {gf : Obj → List (Addr × Obj)}
  (B : Below A₀ base outer h₀) (F : Fr h₀ L s.heap m) (X : (Mine.heapK w.params).In h₀) (N : News h₀ L s.heap news) (T : Top Mine.hd.view_433 loose mean mg mb h₀) (hk : cs.kind = .function)
  (hd : dp + 20 < recursionLimit) (hu : un + 120 < cLine)
  (U : UpdF p (potObj l at_ st t u n) news gf) (hl : (l, listOf vs.toArray n') ∈ news) (hi : IntsAre vs ns) (hlen : ns.length ≤ 63) (h1 : 0 ≤ at_) (h2 : at_ ≤ 999990) (h3 : 0 ≤ st) (h4 : st ≤ 1000000) (hm1 : 1 ≤ many) (hm2 : many ≤ 8)
  (ret : ∀ h' tk' q x k t' u' st' t1 t2, InsOk many (x, k) → 0 ≤ st' → st' ≤ 1000000 → Kept [p] s.heap h' → s.heap.get? q = none → Fr h₀ L h' m → News h₀ L h' ((q, tupObj x k t' u') :: gf (potObj l (at_ + 2) st' t1 t2 n)) → Q (.ref q) { s with heap := h', toks := tk' }) :
  wpAny (model prog w) (ktrTop dp un gd cn cs L a ccd cl outer) (call (.ref 183) [.ref p, .int many v]) Q E s := by
  obtain ⟨pre, post, hnews, hgf, hpre, hpost⟩ := U.split
  have hpm : (p, potObj l at_ st t u n) ∈ news := by rw [hnews]; exact List.mem_append_right _ (.head _)
  have hpl : @Ne Nat p l := by
    intro e
    have e1 := (N _ hpm).1
    have e2 := (N _ hl).1
    dsimp only at e1 e2
    rw [e, e2] at e1
    exact int_ne_pot hi (Option.some.inj e1)
  have N2 : News h₀ L s.heap [(p, potObj l at_ st t u n), (l, listOf vs.toArray n')] := by
    intro q hq
    rcases List.mem_cons.mp hq with rfl | hq
    · exact N _ hpm
    · rw [List.mem_singleton.mp hq]; exact N _ hl
  refine wpAny_call ?_
  k_dflt (refine' code_defM (binds := [(Str.ofString "pot", .ref p), (Str.ofString "many", .int many v)]) ?k1 ?k2 ?k3 ?k4 ?k5 ?kA ?kF ?kK ?k6 ?k7 ?k8 ?k9 ?kB ?_ ?c2 ?c3 ?c4 ?c5; (case kA => exact rfl); (case kF => exact rfl); (case kK => assumption); (case k1 => k_asm); (case k2 => k_asm); (case k3 => k_asm); (case k4 => exact N2); (case k5 => k_asm); (case k6 => k_is); (case k7 => k_is); (case k8 => k_room); (case k9 => exact BindsTo.of_eq rfl); (case c5 => decide); (case kB => exact locs rfl); (case c2 => exact rfl); (case c3 => exact rfl); (case c4 => exact rfl); k_whole)
  intro g L' h' tk hG hG' hL' FG' F' N' B' X' T'
  have fin := fun h' m' led (F' : Fr g L' h' m') (N' : News g L' h' led) o' (m1 : (p, o') ∈ led) (m2 : (l, listOf vs.toArray n') ∈ led) => pot_back F N U hl hpl hG F' N' m1 m2
  have fin2 : ∀ (h' : Heap) m' led q x k t' u' st' t1 t2 tk', Fr g L' h' m' → News g L' h' led → (q, tupObj x k t' u') ∈ led → (p, potObj l (at_ + 1 + 1) st' t1 t2 n) ∈ led → (l, listOf vs.toArray n') ∈ led → @Ne Nat p q → @Ne Nat l q → InsOk many (x, k) → 0 ≤ st' → st' ≤ 1000000 → Fr h₀ L h' m → Q (.ref q) { s with heap := h', toks := tk' } := by
    intro h' m' led q x k t' u' st' t1 t2 tk' F' N' mq mp ml n1 n2 hok h0 h9 FF
    obtain ⟨q1, q2, q3⟩ := fin _ _ _ F' N' _ mp ml
    obtain ⟨q4, q5⟩ := q3 _ _ mq n1 n2
    rw [show at_ + 1 + 1 = at_ + 2 by omega] at q5
    exact ret _ _ _ _ _ _ _ _ _ _ hok h0 h9 q1 q4 FF q5
  clear F N N2 B X T U hpm hl hnews hpre hpost hG' hgf fin ret
  (try dsimp only)
  k_steps
  refine Stop.of ?_
  k_dflt (refine dip_spec (by k_asm) (by k_asm) (by k_asm) (by k_asm) (by k_asm) (by first | exact rfl | assumption) (by (try dsimp only); omega) (by (try dsimp only); omega) (by k_updF) (by k_mem) (by assumption) (by assumption) (by omega) (by omega) (by omega) (by omega) (by omega) (by omega) ?_)
  intro h' tk' k' t' st' t1' t2' hk1' hk2' hs1' hs2' hK' F' N'
  (try dsimp only at N')
  (try dsimp only)
  (try k_fold)
  k_steps
  refine Stop.of ?_
  k_dflt (refine dip_spec (by k_asm) (by k_asm) (by k_asm) (by k_asm) (by k_asm) (by first | exact rfl | assumption) (by (try dsimp only); omega) (by (try dsimp only); omega) (by k_updF) (by k_mem) (by assumption) (by assumption) (by omega) (by omega) (by omega) (by omega) (by omega) (by omega) ?_)
  intro h' tk' k' t' st' t1' t2' hk1' hk2' hs1' hs2' hK' F' N'
  (try dsimp only at N')
  (try dsimp only)
  (try k_fold)
  k_steps
  all_goals first
    | (exfalso; omega)
    | (refine Stop.of (leaveK_ (by assumption) (by assumption) ?_)
       intro FF _
       refine fin2 _ _ _ _ _ _ _ _ _ _ _ _ (by assumption) (by assumption) (.head _) (.tail _ (.tail _ (.head _))) (.tail _ (.tail _ (.tail _ (.head _)))) (by omega) (by omega) ?_ (by omega) (by omega) FF
       first
         | exact .inl ⟨by first | exact .inl rfl | exact .inr (.inl rfl) | exact .inr (.inr rfl), Int.fmod_nonneg_of_pos _ (by omega), Int.fmod_lt_of_pos _ (by omega)⟩
         | exact .inr (.inl ⟨rfl, Int.fmod_nonneg_of_pos _ (by omega), Int.fmod_lt_of_pos _ (by omega)⟩)
         | exact .inr (.inr (.inl ⟨by first | exact .inl rfl | exact .inr rfl, rfl⟩))
         | exact .inr (.inr (.inr ⟨by first | exact .inl rfl | exact .inr (.inl rfl) | exact .inr (.inr rfl), by dsimp only; omega, by dsimp only; omega⟩)))
end


/-- the end of a turn: own is the iterator's, Jn is what holds behind the turn -/
def TEnd (h₀ : Heap) (L : Addr) (own : List (Addr × Obj)) (Jn : (Str → Option Value) → List (Addr × Obj) → Prop) (s : Shared) (Q : Flow → Shared → Prop) (f : Flow) (s₂ : Shared) : Prop :=
  match f with
  | .ret v => Q (.ret v) s₂
  | .brk => Q .next s₂
  | _ => ∃ h' tk m' news', s₂ = { s with heap := h', toks := tk } ∧ Fr h₀ L h' m' ∧ News h₀ L h' (news' ++ own) ∧ OwnOff own (news'.map (·.1)) ∧ Jn m' news'

section
variable {prog : Program} {w : World} {A : Around} {E : Value → Shared → Prop} {s : Shared} {env : Env} {h₀ : Heap} {target : Expr} {body : List Stmt} {Q : Flow → Shared → Prop}

theorem my_turns {I : Addr} {fp wr : List Addr} {n : Nat} {P Md : Nat → Value → Heap → Prop} {St : Nat → Heap → Prop} {m : Str → Option Value} {news : List (Addr × Obj)} {s₂ : Shared} (W : KTurns prog w A target I fp wr n P Md St)
    (hLf : env.locals ∉ fp) (hwr : ∀ b ∈ wr, h₀.get? b = none) (hnw : ∀ p ∈ news, p.1 ∉ wr) (hst : St 0 s₂.heap) (F : Fr h₀ env.locals s₂.heap m) (N : News h₀ env.locals s₂.heap news)
    (hfp : ∀ b ∈ fp, b ∈ wr ∨ (∃ o, h₀.get? b = some o) ∨ (∃ o, (b, o) ∈ news)) (hlive : ∀ i h, St i h → ∀ b ∈ wr, ∃ o, h.get? b = some o)
    (J : Nat → (Str → Option Value) → List (Addr × Obj) → Prop) (h0 : J 0 m news) (hJn : ∀ i m' news', J i m' news' → ∀ b ∈ fp, b ∉ wr → h₀.get? b = none → ∀ o, (b, o) ∈ news → (b, o) ∈ news')
    (step : ∀ i v m₁ news₁ h₁ tk₁ own, i < n → P i v h₁ → J i m₁ news₁ → OwnOff own (news₁.map (·.1)) → Fr h₀ env.locals h₁ m₁ → News h₀ env.locals h₁ (news₁ ++ own) →
      wpAny (model prog w) A (assign target env v) (fun _ s₃ => wpAny (model prog w) A (execs body env) (TEnd h₀ env.locals own (J (i + 1)) { s₂ with heap := h₁, toks := tk₁ } Q) E s₃) E { s₂ with heap := h₁, toks := tk₁ })
    (done : ∀ h' tk m' news', Fr h₀ env.locals h' m' → News h₀ env.locals h' news' → J n m' news' → Q .next { s₂ with heap := h', toks := tk }) :
    TurnsAt prog w A h₀ env target body Q E (.ref I) s₂ := by
  refine ⟨I, fp, wr, n, P, Md, St, m, news, fun i m₁ news₁ => J i m₁ news₁, rfl, W, hLf, hwr, hnw, hst, F, N, h0, ?_, fun h' tk m' news' F' N' _ hJ => done h' tk m' news' F' N' hJ⟩
  intro i v m₁ news₁ h₁ tk₁ own hi hP hJ hoff hown hget hmem hst₁ F₁ N₁
  -- the iterator's own objects that may be written
  let own' := own.filter (fun p => wr.contains p.1)
  have hsub : ∀ p ∈ own', p ∈ own ∧ p.1 ∈ wr := fun p hp => by
    have := List.mem_filter.mp hp
    exact ⟨this.1, by simpa using this.2⟩
  have hoff' : OwnOff own' (news₁.map (·.1)) := by
    intro p hp b hb e
    obtain ⟨q, hq, rfl⟩ := List.mem_map.mp hb
    exact hoff q hq (e ▸ (hsub p hp).2)
  have N₂ : News h₀ env.locals h₁ (news₁ ++ own') := fun p hp => by
    rcases List.mem_append.mp hp with hp | hp
    · exact N₁ p (List.mem_append_right _ hp)
    · exact N₁ p (List.mem_append_left _ (hsub p hp).1)
  refine wpAny_mono (step i v m₁ news₁ h₁ tk₁ own' hi hP hJ hoff' F₁ N₂) (fun _ s₃ h₃ => wpAny_mono h₃ (fun f s₄ h₄ => ?_) fun _ _ e => e) fun _ _ e => e
  have fin : (∃ h' tk m' news', s₄ = { s₂ with heap := h', toks := tk } ∧ Fr h₀ env.locals h' m' ∧ News h₀ env.locals h' (news' ++ own') ∧ OwnOff own' (news'.map (·.1)) ∧ J (i + 1) m' news') →
      LoopStepU h₀ env.locals wr own (fun m₁ news₁ => J (i + 1) m₁ news₁) { s₂ with heap := h₁, toks := tk₁ } .next s₄ := by
    rintro ⟨h', tk, m', news', rfl, F', N', hoff₂, hJ'⟩
    have hdis : ∀ p ∈ news', p.1 ∉ wr := by
      intro p hp hb
      obtain ⟨o, ho⟩ := hlive _ _ hst₁ _ hb
      have hin : (p.1, o) ∈ own := hmem _ (W.sub _ hb) (hwr _ hb) _ ho
      have hin' : (p.1, o) ∈ own' := List.mem_filter.mpr ⟨hin, by simpa using hb⟩
      exact hoff₂ _ hin' _ (List.mem_map_of_mem hp) rfl
    refine ⟨rfl, h', tk, m', news', rfl, F', fun p hp => ?_, hdis, hJ'⟩
    rcases List.mem_append.mp hp with hp | hp
    · by_cases hw : p.1 ∈ wr
      · exact N' p (List.mem_append_right _ (List.mem_filter.mpr ⟨hp, by simpa using hw⟩))
      · rcases hfp _ (hown p hp) with q | ⟨o, q⟩ | ⟨o, q⟩
        · exact absurd q hw
        · have := (N₁ p (List.mem_append_left _ hp)).2.2
          rw [q] at this; cases this
        · have hz := (N₁ p (List.mem_append_left _ hp)).2.2
          have h1 := hJn _ _ _ hJ p.1 (hown p hp) hw hz o q
          have h2 := (N₁ _ (List.mem_append_right _ h1)).1
          have h3 := (N₁ p (List.mem_append_left _ hp)).1
          dsimp only at h2
          rw [h2] at h3
          have h4 := hJn _ _ _ hJ' p.1 (hown p hp) hw hz o q
          have h5 := N' _ (List.mem_append_left _ h4)
          have e : p = (p.1, o) := Prod.ext rfl (Option.some.inj h3).symm
          rw [e]; exact h5
    · exact N' p (List.mem_append_left _ hp)
  cases f with
  | ret v => exact h₄
  | brk => exact h₄
  | next => exact fin h₄
  | cont => exact fin h₄

/-- over a list of the frame's base -/
theorem iter_listB {l : Addr} {vs : List Value} {m : Str → Option Value} {news : List (Addr × Obj)} (hh : A.handled = none) (hl : h₀.IsList l vs.toArray) (F : Fr h₀ env.locals s.heap m) (N : News h₀ env.locals s.heap news)
    (J : Nat → (Str → Option Value) → List (Addr × Obj) → Prop) (h0 : J 0 m news)
    (step : ∀ i v m₁ news₁ h₁ tk₁ own, vs[i]? = some v → J i m₁ news₁ → OwnOff own (news₁.map (·.1)) → Fr h₀ env.locals h₁ m₁ → News h₀ env.locals h₁ (news₁ ++ own) →
      wpAny (model prog w) A (assign target env v) (fun _ s₃ => wpAny (model prog w) A (execs body env) (TEnd h₀ env.locals own (J (i + 1)) { s with heap := h₁, toks := tk₁ } Q) E s₃) E { s with heap := h₁, toks := tk₁ })
    (done : ∀ h' tk m' news', Fr h₀ env.locals h' m' → News h₀ env.locals h' news' → J vs.length m' news' → Q .next { s with heap := h', toks := tk }) :
    wpAny (model prog w) A (pyIter (.ref l)) (fun it s₂ => TurnsAt prog w A h₀ env target body Q E it s₂) E s := by
  have hls : s.heap.IsList l vs.toArray := hl.at fun o e => F.keep l o e
  obtain ⟨ol, hol, _⟩ := id hl
  have hlt : l < s.heap.objs.size := by obtain ⟨o, ho, _⟩ := hls; exact Heap.lt_size ho
  have hne : l ≠ s.heap.objs.size := Nat.ne_of_lt hlt
  refine wpAny_pyIter_list hls ?_
  refine my_turns (KTurns.ofWalks (Walks.list hh s.heap.objs.size l hne vs.toArray) fun i v s Q E st q => letGo_listiter st.1 q) ?_ ?_ ?_ ⟨⟨_, Heap.get?_push_size _ rfl, rfl, rfl⟩, hls.at fun o e => Heap.get?_push_of_some _ e⟩ (F.push _) (fun p hp => ⟨Heap.get?_push_of_some _ (N p hp).1, (N p hp).2⟩) ?_ ?_ J h0 ?_ ?_ ?_
  · intro hI
    rcases List.mem_cons.mp hI with e | hI
    · exact absurd F.ns.lt (e ▸ Nat.lt_irrefl _)
    · have := List.mem_singleton.mp hI
      exact absurd (Nat.lt_of_lt_of_le (Heap.lt_size hol) F.above) (this ▸ Nat.lt_irrefl _)
  · intro b hb
    rw [List.mem_singleton.mp hb]
    exact next_is_new F
  · intro p hp hI
    exact absurd (Heap.lt_size (N p hp).1) ((List.mem_singleton.mp hI) ▸ Nat.lt_irrefl _)
  · intro b hb
    rcases List.mem_cons.mp hb with e | hb
    · exact .inl (by simp [e])
    · exact .inr (.inl ⟨ol, by rw [List.mem_singleton.mp hb]; exact hol⟩)
  · intro i h st b hb
    obtain ⟨it, hit, _⟩ := st.1
    exact ⟨it, by rw [List.mem_singleton.mp hb]; exact hit⟩
  · intro i m' news' _ b hb hw hz o _
    rcases List.mem_cons.mp hb with e | hb
    · exact absurd (by simp [e]) hw
    · rw [List.mem_singleton.mp hb, hol] at hz; cases hz
  · intro i v m₁ news₁ h₁ tk₁ own hi hP hJ hoff F₁ N₁
    have hP' : vs[i]? = some v := by
      have : vs.toArray[i]? = some v := hP
      simpa using this
    exact step i v m₁ news₁ h₁ tk₁ own hP' hJ hoff F₁ N₁
  · intro h' tk m' news' F' N' hJ
    exact done h' tk m' news' F' N' (by simpa using hJ)
end

theorem map_form {m₁ m₀ : Str → Option Value} (stored : List Str) (h : ∀ z, stored.contains z = false → m₁ z = m₀ z) : m₁ = fun z => if stored.contains z then m₁ z else m₀ z := by
  funext z
  cases q : stored.contains z with
  | true => simp
  | false => simp [h z q]

section
variable {prog : Program} {w : World} {A : Around} {E : Value → Shared → Prop} {s : Shared} {env : Env} {h₀ : Heap} {body : List Stmt} {Q : Flow → Shared → Prop}
/-- enumerate over a list of the base, or of the ledger (then J keeps it) -/
theorem enum_list {elts : List Expr} {kk : Nat} {pos : Pos} {l : Addr} {vs : List Value} {m : Str → Option Value} {news : List (Addr × Obj)} (hh : A.handled = none) (F : Fr h₀ env.locals s.heap m) (N : News h₀ env.locals s.heap news)
    (J : Nat → (Str → Option Value) → List (Addr × Obj) → Prop) (h0 : J 0 m news)
    (hl : h₀.IsList l vs.toArray ∨ ∃ n, (l, listOf vs.toArray n) ∈ news ∧ ∀ i m' news', J i m' news' → (l, listOf vs.toArray n) ∈ news')
    (step : ∀ i v T t m₁ news₁ h₁ tk₁ own, vs[i]? = some v → J i m₁ news₁ → OwnOff own (news₁.map (·.1)) → Fr h₀ env.locals h₁ m₁ → News h₀ env.locals h₁ (news₁ ++ own) → IsTup h₁ T #[.int (i : Int) t, v] →
      wpAny (model prog w) A (assign (.Tuple elts kk pos) env (.ref T)) (fun _ s₃ => wpAny (model prog w) A (execs body env) (TEnd h₀ env.locals own (J (i + 1)) { s with heap := h₁, toks := tk₁ } Q) E s₃) E { s with heap := h₁, toks := tk₁ })
    (done : ∀ h' tk m' news', Fr h₀ env.locals h' m' → News h₀ env.locals h' news' → J vs.length m' news' → Q .next { s with heap := h', toks := tk }) :
    wpAny (model prog w) A (call (.type "enumerate") [.ref l]) (fun xv s₁ => wpAny (model prog w) A (pyIter xv) (fun it s₂ => TurnsAt prog w A h₀ env (.Tuple elts kk pos) body Q E it s₂) E s₁) E s := by
  have hls : s.heap.IsList l vs.toArray := by
    rcases hl with hl | ⟨n, hm, _⟩
    · exact hl.at fun o e => F.keep l o e
    · exact ⟨_, (N _ hm).1, rfl, n, rfl⟩
  have hlt : l < s.heap.objs.size := by obtain ⟨o, ho, _⟩ := hls; exact Heap.lt_size ho
  have hLs : env.locals < s.heap.objs.size := F.ns.lt
  have hlL : l ≠ env.locals := by
    rcases hl with hl | ⟨n, hm, _⟩
    · obtain ⟨o, ho, _⟩ := hl
      intro e
      exact absurd (Nat.lt_of_lt_of_le (Heap.lt_size ho) F.above) (e ▸ Nat.lt_irrefl _)
    · exact (N _ hm).2.1
  refine call_enumerate_list hls fun h' hE hI hsz hk => ?_
  refine wpAny_pyIter_enum hE ?_
  refine my_turns (KTurns.ofWalksU (WalksT.enumerate hh (s.heap.objs.size + 1) s.heap.objs.size l (Nat.succ_ne_self _) (ktu_ne 1 hlt) (Nat.ne_of_lt hlt) vs.toArray).toU) ?_ ?_ ?_ ⟨⟨.none, hE⟩, hI, hls.at fun o e => hk l o e⟩ (F.keeps hk) (N.grown hk) ?_ ?_ J h0 ?_ ?_ ?_
  · intro hI'
    have hb' : env.locals = s.heap.objs.size + 1 ∨ env.locals = s.heap.objs.size ∨ env.locals = l := by simpa using hI'
    rcases hb' with e | e | e
    · exact ktu_ne 1 hLs e
    · exact Nat.ne_of_lt hLs e
    · exact hlL e.symm
  · intro b hb
    have hb' : b = s.heap.objs.size + 1 ∨ b = s.heap.objs.size := by simpa using hb
    rcases hb' with rfl | rfl
    · exact ktu_new F (Nat.le_add_right _ _)
    · exact ktu_new F (Nat.le_refl _)
  · intro p hp hI'
    have hb' : p.1 = s.heap.objs.size + 1 ∨ p.1 = s.heap.objs.size := by simpa using hI'
    have hlp := Heap.lt_size (N p hp).1
    rcases hb' with e | e
    · exact ktu_ne 1 hlp e
    · exact Nat.ne_of_lt hlp e
  · intro b hb
    have hb' : b = s.heap.objs.size + 1 ∨ b = s.heap.objs.size ∨ b = l := by simpa using hb
    rcases hb' with e | e | e
    · exact .inl (by simp [e])
    · exact .inl (by simp [e])
    · rcases hl with hl | ⟨n, hm, _⟩
      · obtain ⟨o, ho, _⟩ := hl
        exact .inr (.inl ⟨o, by rw [e]; exact ho⟩)
      · exact .inr (.inr ⟨_, by rw [e]; exact hm⟩)
  · rintro i h ⟨⟨old, he⟩, ⟨oi, hoi, hic, _⟩, _⟩ b hb
    have hb' : b = s.heap.objs.size + 1 ∨ b = s.heap.objs.size := by simpa using hb
    rcases hb' with e | e
    · exact ⟨_, by rw [e]; exact he⟩
    · exact ⟨oi, by rw [e]; exact hoi⟩
  · intro i m' news' hJ b hb hw hz o ho
    have hb' : b = s.heap.objs.size + 1 ∨ b = s.heap.objs.size ∨ b = l := by simpa using hb
    rcases hb' with e | e | e
    · exact absurd (by simp [e]) hw
    · exact absurd (by simp [e]) hw
    · rcases hl with hl | ⟨n, hm, hJm⟩
      · obtain ⟨ol, hol, _⟩ := hl
        rw [e, hol] at hz; cases hz
      · have h1 := (N _ ho).1
        have h2 := (N _ hm).1
        dsimp only at h1 h2
        rw [e, h2] at h1
        rw [e, ← Option.some.inj h1]
        exact hJm i m' news' hJ
  · rintro i v m₁ news₁ h₁ tk₁ own hi ⟨T, vals, rfl, ⟨t, x, hx, rfl⟩, hT⟩ hJ hoff F₁ N₁
    have hP' : vs[i]? = some x := by simpa using hx
    exact step i x T t m₁ news₁ h₁ tk₁ own hP' hJ hoff F₁ N₁ hT
  · intro h' tk m' news' F' N' hJ
    exact done h' tk m' news' F' N' (by simpa using hJ)
end


def CodeAt (h : Heap) (l : Addr) (c : List (Str × Int)) : Prop :=
  ∃ vs : List Value, h.IsList l vs.toArray ∧ vs.length = c.length ∧ ∀ (i : Nat) (x : Str) (k : Int), c[i]? = some (x, k) → ∃ a t u, vs[i]? = some (.ref a) ∧ IsTup h a #[.str x t, .int k u]
theorem CodeAt.kept {h h' : Heap} {l : Addr} {c : List (Str × Int)} (x : CodeAt h l c) (k : ∀ b o, h.get? b = some o → h'.get? b = some o) : CodeAt h' l c := by
  obtain ⟨vs, h1, h2, h3⟩ := x
  refine ⟨vs, h1.at fun o e => k _ _ e, h2, fun i x q hi => ?_⟩
  obtain ⟨a, t, u, e1, e2⟩ := h3 i x q hi
  exact ⟨a, t, u, e1, e2.keeps k⟩
def WordsOk (c : List (Str × Int)) : Prop := ∀ i ∈ c, ∃ y, sortOf i.1 = some y
def IsMet (c : List (Str × Int)) (ns : List Int) : Prop := ns.Pairwise (· < ·) ∧ ∀ n, n ∈ ns ↔ ∃ x, (x, n) ∈ c ∧ isJump x = true

section
variable {w : World} {prog : Program} {A : Around} {E : Value → Shared → Prop} {s : Shared} {h₀ : Heap} {L d : Addr} {m : Str → Option Value} {news : List (Addr × Obj)} {o : Obj} {kvs : List (Int × Value)} {Q : Value → Shared → Prop}
theorem stored_len (kvs : List (Int × Value)) (k : Int) (v : Value) : (stored kvs k v).length ≤ kvs.length + 1 := by
  unfold stored
  split
  · simp
  · simp
theorem stored_keys (kvs : List (Int × Value)) (k : Int) (v : Value) (n : Int) : n ∈ (stored kvs k v).map (·.1) ↔ n ∈ kvs.map (·.1) ∨ n = k := by
  unfold stored
  split
  · rename_i hany
    have e : (kvs.map fun kv => if kv.1 = k then (kv.1, v) else kv).map (·.1) = kvs.map (·.1) := by
      rw [List.map_map]
      refine List.map_congr_left fun kv _ => ?_
      show (if kv.1 = k then (kv.1, v) else kv).1 = kv.1
      split <;> rfl
    rw [e]
    obtain ⟨kv, h1, h2⟩ := List.any_eq_true.mp hany
    constructor
    · exact .inl
    · rintro (h | rfl)
      · exact h
      · exact List.mem_map.mpr ⟨kv, h1, by simpa using h2⟩
  · simp
theorem sorted_dict (hh : A.handled = none) (F : Fr h₀ L s.heap m) (N : News h₀ L s.heap news) (hp : (d, o) ∈ news) (hd : o.IsDictOf (intKind prog w) kvs) (lo : (d == sysModules) = false) (hn : kvs.length < 64)
    (h : ∀ D vs' ns' e h' tk, Fr h₀ L h' m → News h₀ L h' ((D, listOf vs'.toArray e) :: news) → (∀ q ∈ news, q.1 < D) → IntsAre vs' ns' → ns'.Perm (kvs.map (·.1)) → ns'.Pairwise (· ≤ ·) → Q (.ref D) { s with heap := h', toks := tk }) :
    wpAny (model prog w) A (call (.builtin "sorted") [.ref d]) Q E s := by
  have hD := kda_dict N hp hd
  obtain ⟨ep, hat⟩ := hD.dictAt
  have hsz : kvs.length ≤ sizeLine := by rw [sizeLine_eq]; omega
  refine kdu_sorted (kdl_dict (knd := intKind prog w) (kvs := kvs) (ep := ep) lo) hh F N hat hsz fun D h' tk vs F' N' l1 hl hv => ?_
  have hI : IntsAre vs (kvs.map (·.1)) := by
    refine kdy_ints (by rw [hl, List.length_map]) fun j v e => ?_
    obtain ⟨k, x, hx, hk⟩ := hv j v e
    obtain ⟨t, ht⟩ := PyProof.V.Flat.int_inv (kdl_flat_int hk)
    exact ⟨k, by simp [hx], t, ht⟩
  have ho := (N' _ (.head _)).1
  dsimp only at ho
  refine wpAny_call_entry slot_list_sort ⟨_, ho, rfl⟩ entry_list_sort (list_sort_tree ho hI (by rw [hl]; exact hn) fun out ns' a1 a2 a3 => ⟨_, rfl, ?_⟩) (args_list_sort _)
  obtain ⟨e, he⟩ := sortedHeap_at (n := 0) (out := out) ho
  have hold : ∀ b o, b ≠ D → h'.get? b = some o → (sortedHeap h' D vs out).get? b = some o := fun b o hb e => (sortedHeap_old hb (Heap.lt_size e)).trans e
  have hDL : D ≠ L := (N' _ (.head _)).2.1
  have hD0 : h₀.get? D = none := (N' _ (.head _)).2.2
  refine h D out.toList ns' e _ _ ?_ ?_ l1 a1 a2 a3
  · obtain ⟨oL, es, ep', hL, r⟩ := F'.ns
    exact ⟨⟨oL, es, ep', hold _ _ (Ne.symm hDL) hL, r⟩, fun b o e => hold b o (fun q => by rw [q, hD0] at e; cases e) (F'.keep b o e), F'.above⟩
  · intro q hq
    rcases List.mem_cons.mp hq with rfl | hq
    · exact ⟨by simpa using he, hDL, hD0⟩
    · have := N' q (.tail _ hq)
      exact ⟨hold _ _ (Nat.ne_of_lt (l1 q hq)) this.1, this.2⟩
end

section
local macro_rules | `(tactic| walk_at "pyIter ref") => `(tactic| (fail "stay"))
local macro_rules | `(tactic| walk_at "setItem ref int") => `(tactic| (refine Stop.out ?_))
local macro_rules | `(tactic| walk_at "call builtin:sorted") => `(tactic| (refine Stop.out ?_))
local macro_rules | `(tactic| walk_at "exec For Tuple Name cons nil") => `(tactic| (k_here; (with_reducible rename Fr _ _ _ _ => kF); with_unfolding_all refine For_turns kF ?_))

theorem met_spec {prog : Program} {w : World} {dp un : Nat} {gd : Option (List Code)} {cn : Str} {cs : Scope} {a : Addr} {ccd : Value} {cl : List (Str × Addr)} {outer : List Env} {A₀ : Around} {base h₀ : Heap} {L : Addr} {m : Str → Option Value} {s : Shared} {Q E : Value → Shared → Prop} {loose : List Str} {mean : ExcName → Option Value} {mg mb : Str → Option Value}
  {l : Addr} {c : List (Str × Int)} {news : List (Addr × Obj)}
  (B : Below A₀ base outer h₀) (F : Fr h₀ L s.heap m) (X : (Mine.heapK w.params).In h₀) (N : News h₀ L s.heap news) (T : Top Mine.hd.view_433 loose mean mg mb h₀) (hk : cs.kind = .function)
  (hd : dp + 20 < recursionLimit) (hu : un + 120 < cLine) (hc : CodeAt s.heap l c) (hw : WordsOk c) (hlen : c.length ≤ 60)
  (ret : ∀ h' tk' D vs' ns' e, IsMet c ns' → ns'.length ≤ c.length → IntsAre vs' ns' → Kept [] s.heap h' → s.heap.get? D = none → Fr h₀ L h' m → News h₀ L h' ((D, listOf vs'.toArray e) :: news) → Q (.ref D) { s with heap := h', toks := tk' }) :
  wpAny (model prog w) (ktrTop dp un gd cn cs L a ccd cl outer) (call (.ref 113) [.ref l]) Q E s := by
  refine wpAny_call ?_
  k_dflt (refine' code_defM (binds := [(Str.ofString "code", .ref l)]) ?k1 ?k2 ?k3 ?k4 ?k5 ?kA ?kF ?kK ?k6 ?k7 ?k8 ?k9 ?kB ?_ ?c2 ?c3 ?c4 ?c5; (case kA => exact rfl); (case kF => exact rfl); (case kK => assumption); (case k1 => k_asm); (case k2 => k_asm); (case k3 => k_asm); (case k4 => exact News.nil); (case k5 => k_asm); (case k6 => k_is); (case k7 => k_is); (case k8 => k_room); (case k9 => exact BindsTo.of_eq rfl); (case c5 => decide); (case kB => exact locs rfl); (case c2 => exact rfl); (case c3 => exact rfl); (case c4 => exact rfl); k_whole)
  intro g L' h' tk hG hG' hL' FG' F' N' B' X' T'
  have hcg : CodeAt g l c := hc.kept fun b o e => hG b o e (by simp)
  (try dsimp only)
  k_steps
  obtain ⟨vs, hl, hvl, hvi⟩ := hcg
  rename_i d1 h0 o1 lo1 hs1 fs1 hi1 fi1 l1 h1 F1 N1
  refine iter_listB rfl hl F1 N1 (fun i m₁ news₁ => ∃ (o' : Obj) (kvs : List (Int × Value)), news₁ = [(d1, o')] ∧ o'.IsDictOf (intKind prog w) kvs ∧ kvs.length ≤ i ∧
    (∀ n, n ∈ kvs.map (·.1) ↔ ∃ x, (x, n) ∈ c.take i ∧ isJump x = true) ∧ ∀ z, [Str.ofString "word", Str.ofString "operand"].contains z = false → m₁ z = if z = Str.ofString "found" then some (Value.ref d1) else List.lookup z [(Str.ofString "code", Value.ref l)].reverse)
    ⟨o1, [], rfl, hi1, Nat.le_refl _, by simp, fun _ _ => rfl⟩ ?_ ?_
  · intro i v m₁ news₁ h₁ tk₁ own hv hJ hoff F₂ N₂
    (try (refine fold_ ?_; k_fold))
    obtain ⟨o', kvs, rfl, hd', hle, hkeys, hm⟩ := hJ
    have hi : i < c.length := by rw [← hvl]; exact (List.getElem?_eq_some_iff.mp hv).1
    obtain ⟨⟨x, k⟩, hxk⟩ : ∃ p, c[i]? = some p := ⟨_, List.getElem?_eq_getElem hi⟩
    obtain ⟨ta, tt, tu, e1, e2⟩ := hvi i x k hxk
    rw [hv] at e1
    cases e1
    obtain ⟨y, hy⟩ := hw (x, k) (List.mem_of_getElem? hxk)
    rw [map_form _ hm] at F₂
    simp only [List.cons_append, List.nil_append] at N₂
    have hs9 : kvs.length ≤ sizeLine := by rw [sizeLine_eq]; omega
    refine unpackN_ F₂ N₂ (e2.keeps F₂.keep) rfl rfl rfl fun h₂ F₃ N₃ => ?_
    have tk9 : c.take (i + 1) = c.take i ++ [(x, k)] := by rw [List.take_add_one, hxk]; rfl
    k_steps
    refine Stop.of ?_
    k_dflt (refine is_jump_spec (by k_asm) (by k_asm) (by k_asm) (by k_asm) (by k_asm) (by first | exact rfl | assumption) (by (try dsimp only); omega) (by assumption) ?_)
    intro h' tk' hK' F' N'
    (try dsimp only)
    k_steps
    · refine Stop.of ?_
      k_dflt (refine kda_set (knd := PySem.intKind _ _) (by k_asm) (by k_asm) (by k_updF) (by k_asm) (intKind_is _ _ _ _) (by assumption) ?_)
      intro h' o' F' N' hd'
      (try dsimp only at N')
      k_steps
      refine ⟨_, _, _, [(d1, _)], rfl, by assumption, by assumption, by exact hoff, _, stored kvs k (.bool true), rfl, by assumption, ?_, ?_, ?_⟩
      · have := stored_len kvs k (.bool true); omega
      · intro n
        rw [stored_keys, hkeys n, tk9]
        constructor
        · rintro (⟨x', h1, h2⟩ | rfl)
          · exact ⟨x', List.mem_append_left _ h1, h2⟩
          · exact ⟨x, List.mem_append_right _ (.head _), by assumption⟩
        · rintro ⟨x', h1, h2⟩
          rcases List.mem_append.mp h1 with h1 | h1
          · exact .inl ⟨x', h1, h2⟩
          · cases List.mem_singleton.mp h1; exact .inr rfl
      · intro z hz
        have z1 : z ≠ Str.ofString "word" := fun e => by rw [e] at hz; exact absurd hz (by decide)
        have z2 : z ≠ Str.ofString "operand" := fun e => by rw [e] at hz; exact absurd hz (by decide)
        show (if z = _ then _ else if z = _ then _ else if _ = true then _ else _) = _
        rw [if_neg z2, if_neg z1, if_neg (by rw [hz]; decide)]
    · refine ⟨_, _, _, [(d1, _)], rfl, by assumption, by assumption, by exact hoff, _, kvs, rfl, by assumption, by omega, ?_, ?_⟩
      · intro n
        rw [hkeys n, tk9]
        constructor
        · rintro ⟨x', h1, h2⟩
          exact ⟨x', List.mem_append_left _ h1, h2⟩
        · rintro ⟨x', h1, h2⟩
          rcases List.mem_append.mp h1 with h1 | h1
          · exact ⟨x', h1, h2⟩
          · cases List.mem_singleton.mp h1; simp_all
      · intro z hz
        have z1 : z ≠ Str.ofString "word" := fun e => by rw [e] at hz; exact absurd hz (by decide)
        have z2 : z ≠ Str.ofString "operand" := fun e => by rw [e] at hz; exact absurd hz (by decide)
        show (if z = _ then _ else if z = _ then _ else if _ = true then _ else _) = _
        rw [if_neg z2, if_neg z1, if_neg (by rw [hz]; decide)]
  · intro h₂ tk₂ m₂ news₂ F₂ N₂ hJ
    (try (refine fold_ ?_; k_fold))
    obtain ⟨o', kvs, rfl, hd', hle, hkeys, hm⟩ := hJ
    rw [map_form _ hm] at F₂
    have hnd : (kvs.map (·.1)).Nodup := by
      obtain ⟨_, _, _, _, _, _, _, _, q⟩ := (Heap.dictOf_iff.mpr ⟨o', (N₂ _ (.head _)).1, hd'⟩ : h₂.DictOf (intKind prog w) d1 kvs)
      exact q
    rw [hvl] at hle hkeys
    rw [List.take_length] at hkeys
    have hn9 : kvs.length < 64 := by omega
    k_steps
    refine Stop.of ?_
    k_dflt (refine sorted_dict rfl (by k_asm) (by k_asm) (by k_mem) (by assumption) (by assumption) (by assumption) ?_)
    intro D9 vs9 ns9 e9 h9 tk8 F9 N9 l9 hI hP hO
    (try dsimp only)
    k_steps
    refine Stop.of (leaveK_ F9 N9 ?_)
    intro FF NN
    have k1 : Kept [] s.heap h9 := fun b o e n => F9.keep b o (hG b o e n)
    have hD : s.heap.get? D9 = none := by
      cases e : s.heap.get? D9 with
      | none => rfl
      | some o => have := hG D9 o e (by simp); rw [(N9 _ (.head _)).2.2] at this; cases this
    have kF := fr_kept F k1.all
    refine ret _ _ _ vs9 ns9 e9 ⟨?_, ?_⟩ (by rw [hP.length_eq, List.length_map]; exact hle) hI k1 hD kF ?_
    · have hnd' : ns9.Nodup := hP.nodup_iff.mpr hnd
      exact (List.pairwise_and_iff.mpr ⟨hO, hnd'⟩).imp fun h => by omega
    · intro n
      rw [hP.mem_iff, hkeys n]
    · intro q hq
      rcases List.mem_cons.mp hq with rfl | hq
      · refine ⟨(N9 _ (.head _)).1, fun z => ?_, ?_⟩
        · obtain ⟨oL, es, ep, hL, _⟩ := F.ns
          dsimp only at z
          rw [z, hL] at hD; cases hD
        · cases e : h₀.get? D9 with
          | none => rfl
          | some o => have := F.keep D9 o e; rw [hD] at this; cases this
      · exact news_kept N k1.all q hq
end


noncomputable def plainTab : List (Str × Int) := [(Str.ofString "car", 1), (Str.ofString "cdr", 1), (Str.ofString "cons", 2), (Str.ofString "nth", 2), (Str.ofString "nthcdr", 2), (Str.ofString "eq", 2), (Str.ofString "equal", 2), (Str.ofString "not", 1), (Str.ofString "null", 1), (Str.ofString "consp", 1), (Str.ofString "symbolp", 1), (Str.ofString "integerp", 1), (Str.ofString "stringp", 1), (Str.ofString "listp", 1), (Str.ofString "length", 1), (Str.ofString "memq", 2), (Str.ofString "assq", 2), (Str.ofString "nreverse", 1), (Str.ofString "setcar", 2), (Str.ofString "setcdr", 2), (Str.ofString "+", 2), (Str.ofString "-", 2), (Str.ofString "*", 2), (Str.ofString "1+", 1), (Str.ofString "1-", 1), (Str.ofString "=", 2), (Str.ofString "<", 2), (Str.ofString ">", 2), (Str.ofString "<=", 2), (Str.ofString ">=", 2), (Str.ofString "max", 2), (Str.ofString "min", 2), (Str.ofString "aref", 2), (Str.ofString "aset", 3), (Str.ofString "list", 1), (Str.ofString "list", 2), (Str.ofString "list", 3), (Str.ofString "concat", 2), (Str.ofString "substring", 3), (Str.ofString "symbol-value", 1), (Str.ofString "set", 2), (Str.ofString "point", 0), (Str.ofString "goto-char", 1), (Str.ofString "insert", 1), (Str.ofString "char-after", 1)]

noncomputable def rowObj (p : (Str × Int) × (Tok × Tok)) : Obj := ⟨.type "tuple", none, .seq #[.str p.1.1 p.2.1, .int p.1.2 p.2.2] 0, #[]⟩
noncomputable def rowToks (o : Option Obj) : Tok × Tok := match o with
  | some o => match o.data with
    | .seq ⟨[.str _ t, .int _ u]⟩ _ => (t, u)
    | _ => (0, 0)
  | none => (0, 0)
theorem plain_rows (w : World) : (List.range 45).map (fun k => (Mine.heapK w.params).lookup (40 + k)) = (plainTab.zip ((List.range 45).map fun k => rowToks ((Mine.heapK w.params).lookup (40 + k)))).map (fun p => some (rowObj p)) := by rfl
theorem plain_row (w : World) {k : Nat} {x : Str} {n : Int} (h : plainTab[k]? = some (x, n)) :
    ∃ t u, (Mine.heapK w.params).lookup (40 + k) = some ⟨.type "tuple", none, .seq #[.str x t, .int n u] 0, #[]⟩ := by
  have hk : k < 45 := (List.getElem?_eq_some_iff.mp h).1
  have e := congrArg (fun l => l[k]?) (plain_rows w)
  simp only [List.getElem?_map, List.getElem?_range hk, List.getElem?_zip_eq_some, Option.map_some] at e
  rw [show (plainTab.zip ((List.range 45).map fun k => rowToks ((Mine.heapK w.params).lookup (40 + k))))[k]? = some ((x, n), rowToks ((Mine.heapK w.params).lookup (40 + k))) from
    List.getElem?_zip_eq_some.mpr ⟨h, by rw [List.getElem?_map, List.getElem?_range hk]; rfl⟩] at e
  exact ⟨_, _, Option.some.inj e⟩
theorem plain_refs (w : World) : (Mine.heapK w.params).lookup 85 = some ⟨.type "tuple", none, .seq ((List.range 45).map fun k => Value.ref (40 + k)).toArray 0, #[]⟩ := by rfl

theorem plain_short : ∀ p ∈ plainTab, p.1.length ≤ 30 ∧ 0 ≤ p.2 ∧ p.2 < 10 := by decide +kernel

noncomputable def opText (x : Str) (k : Int) : Str :=
  if sortOf x = some sNONE then Str.ofString ""
  else if sortOf x = some sPLAIN then (match plainTab[k.toNat]? with
    | some (n, a) => Str.empty ++ Str.ofString " " ++ n ++ Str.ofString " " ++ Str.ofString (toString a)
    | none => Str.empty)
  else Str.empty ++ Str.ofString " " ++ Str.ofString (toString k)

theorem int_short {k : Int} (h0 : -1 ≤ k) (h9 : k < 1000000000) : (Str.ofString (toString k)).length ≤ 10 := by
  rw [PySem.ofString_length]
  have := int_text_length_le10 (a := k) (k := 9) (by omega) (by omega)
  exact this
theorem opText_short {x : Str} {k : Int} (h0 : -1 ≤ k) (h9 : k < 1000000000) : (opText x k).length ≤ 60 := by
  unfold opText
  split
  · decide
  · split
    · split
      · rename_i n a e
        obtain ⟨h1, h2, h3⟩ := plain_short _ (List.mem_of_getElem? e)
        dsimp only at h1 h2 h3
        have h4 := int_short (k := a) (by omega) (by omega)
        simp only [Str.length_append]
        have e1 : (Str.ofString " ").length = 1 := by decide
        have e2 : Str.empty.length = 0 := rfl
        omega
      · decide
    · have h4 := int_short h0 h9
      simp only [Str.length_append]
      have e1 : (Str.ofString " ").length = 1 := by decide
      have e2 : Str.empty.length = 0 := rfl
      omega

theorem plain_item {prog : Program} {w : World} {A : Around} {E : Value → Shared → Prop} {s : Shared} {h₀ : Heap} {L : Addr} {m : Str → Option Value} {value slice : Expr} {k : Int} {u : Tok} {Q : Value → Shared → Prop}
    (F : Fr h₀ L s.heap m) (X₀ : (Mine.heapK w.params).In h₀) (hlo : 0 ≤ k) (hhi : k < 45) (h : Q (.ref (40 + k.toNat)) s)
    (hs : subscripted slice false (.ref 85) (.int k u) = operate [.ref 85, .int k u] (getItem (.ref 85) (.int k u)) := by with_unfolding_all rfl) :
    wpAny (model prog w) A (subscriptTail value slice (.ref 85) (.int k u)) Q E s := by
  have hk : k.toNat < 45 := by omega
  refine topTup_K (j := k.toNat) F X₀ (plain_refs w) (by omega) (by omega) ?_ ?_ h hs
  · rw [List.length_map, List.length_range]
    obtain ⟨j, rfl⟩ := Int.eq_ofNat_of_zero_le hlo
    unfold seqIndex?
    simp only [show ¬ ((j : Int) < 0) by omega, if_false]
    rw [if_pos (by simp only [Bool.and_eq_true, decide_eq_true_eq]; omega)]
  · rw [List.getElem?_map, List.getElem?_range hk]
    rfl

section
local macro_rules | `(tactic| walk_at "subscriptTail") => `(tactic| ((with_reducible show wpAny _ _ (subscriptTail _ _ (Value.ref 85) (Value.int _ _)) _ _ _); refine Stop.out ?_))
theorem optext_spec {prog : Program} {w : World} {dp un : Nat} {gd : Option (List Code)} {cn : Str} {cs : Scope} {a : Addr} {ccd : Value} {cl : List (Str × Addr)} {outer : List Env} {A₀ : Around} {base h₀ : Heap} {L : Addr} {m : Str → Option Value} {s : Shared} {Q E : Value → Shared → Prop} {loose : List Str} {mean : ExcName → Option Value} {mg mb : Str → Option Value}
  {x y : Str} {k : Int} {t u : Tok} {news : List (Addr × Obj)}
  (B : Below A₀ base outer h₀) (F : Fr h₀ L s.heap m) (X : (Mine.heapK w.params).In h₀) (N : News h₀ L s.heap news) (T : Top Mine.hd.view_433 loose mean mg mb h₀) (hk : cs.kind = .function)
  (hd : dp + 20 < recursionLimit) (hu : un + 120 < cLine) (hx : sortOf x = some y) (h0 : -1 ≤ k) (h9 : k < 1000000000) (hp : y = sPLAIN → 0 ≤ k ∧ k < 45)
  (ret : ∀ h' tk' t', Kept [] s.heap h' → Fr h₀ L h' m → News h₀ L h' news → Q (.str (opText x k) t') { s with heap := h', toks := tk' }) :
  wpAny (model prog w) (ktrTop dp un gd cn cs L a ccd cl outer) (call (.ref 140) [.str x t, .int k u]) Q E s := by
  refine wpAny_call ?_
  k_dflt (refine' code_defM (binds := [(Str.ofString "word", .str x t), (Str.ofString "operand", .int k u)]) ?k1 ?k2 ?k3 ?k4 ?k5 ?kA ?kF ?kK ?k6 ?k7 ?k8 ?k9 ?kB ?_ ?c2 ?c3 ?c4 ?c5; (case kA => exact rfl); (case kF => exact rfl); (case kK => assumption); (case k1 => k_asm); (case k2 => k_asm); (case k3 => k_asm); (case k4 => exact News.nil); (case k5 => k_asm); (case k6 => k_is); (case k7 => k_is); (case k8 => k_room); (case k9 => exact BindsTo.of_eq rfl); (case c5 => decide); (case kB => exact locs rfl); (case c2 => exact rfl); (case c3 => exact rfl); (case c4 => exact rfl); k_whole)
  intro g L' h' tk hG hG' hL' FG' F' N' B' X' T'
  have kept : ∀ (h' : Heap) L' m', Fr g L' h' m' → Kept [] s.heap h' ∧ Fr h₀ L h' m ∧ News h₀ L h' news := fun h' L' m' F' =>
    have k : Kept [] s.heap h' := fun b o e n => F'.keep b o (hG b o e n)
    ⟨k, fr_kept F k.all, news_kept N k.all⟩
  clear F N B X T
  (try dsimp only)
  (try (refine fold_ ?_; k_fold))
  k_steps
  refine Stop.of ?_
  k_dflt (refine sort_of_spec (by k_asm) (by k_asm) (by k_asm) (by k_asm) (by k_asm) (by first | exact rfl | assumption) (by (try dsimp only); omega) (by assumption) ?_)
  intro h' tk' t' hK' F' N'
  (try dsimp only)
  (try k_fold)
  k_steps
  · have hyb : (y == Str.ofString "none") = true := by assumption
    have hy1 : y = sNONE := eq_of_beq hyb
    have e9 : opText x k = Str.ofString "" := by unfold opText; rw [if_pos (by rw [hx, hy1])]
    rw [e9] at ret
    refine Stop.of (leaveK_ (by assumption) (by assumption) ?_)
    intro _ _
    obtain ⟨k1, k2, k3⟩ := kept _ _ _ (by assumption)
    exact ret _ _ _ k1 k2 k3
  · refine Stop.of ?_
    k_dflt (refine sort_of_spec (by k_asm) (by k_asm) (by k_asm) (by k_asm) (by k_asm) (by first | exact rfl | assumption) (by (try dsimp only); omega) (by assumption) ?_)
    intro h' tk' t' hK' F' N'
    (try dsimp only)
    (try k_fold)
    k_steps
    · have hyb : (y == Str.ofString "plain") = true := by assumption
      have hy : y = sPLAIN := eq_of_beq hyb
      refine Stop.of ?_
      (try (refine fold_ ?_; k_fold))
      obtain ⟨p1, p2⟩ := hp hy
      have hk : k.toNat < plainTab.length := by show k.toNat < 45; omega
      obtain ⟨⟨pn, pa⟩, hrow⟩ : ∃ p, plainTab[k.toNat]? = some p := ⟨_, List.getElem?_eq_getElem hk⟩
      obtain ⟨rt, ru, hrow'⟩ := plain_row w hrow
      obtain ⟨hpn, hpa, hpb⟩ := plain_short _ (List.mem_of_getElem? hrow)
      dsimp only at hpn hpa hpb
      have hpn' : pn.length ≤ sizeLine := by rw [sizeLine_eq]; omega
      k_dflt (refine plain_item (by k_asm) (by k_asm) (by assumption) (by assumption) ?_)
      k_steps
      refine unpackN_ (by assumption) (by assumption) (tupK (X'.keeps (Fr.keep (by assumption))) hrow') rfl rfl rfl fun h₂ F₃ N₃ => ?_
      k_steps
      have e9 : opText x k = Str.empty ++ Str.ofString " " ++ pn ++ Str.ofString " " ++ Str.ofString (toString pa) := by
        unfold opText
        rw [if_neg (by rw [hx, hy]; decide), if_pos (by rw [hx, hy]), hrow]
      rw [e9] at ret
      refine Stop.of (leaveK_ (by assumption) (by assumption) ?_)
      intro _ _
      obtain ⟨k1, k2, k3⟩ := kept _ _ _ (by assumption)
      exact ret _ _ _ k1 k2 k3
    · have e1 : (y == Str.ofString "none") = false := by assumption
      have e2 : (y == Str.ofString "plain") = false := by assumption
      have e9 : opText x k = Str.empty ++ Str.ofString " " ++ Str.ofString (toString k) := by
        unfold opText
        rw [if_neg (by rw [hx]; intro e; rw [Option.some.inj e] at e1; exact absurd e1 (by decide)), if_neg (by rw [hx]; intro e; rw [Option.some.inj e] at e2; exact absurd e2 (by decide))]
      rw [e9] at ret
      refine Stop.of (leaveK_ (by assumption) (by assumption) ?_)
      intro _ _
      obtain ⟨k1, k2, k3⟩ := kept _ _ _ (by assumption)
      exact ret _ _ _ k1 k2 k3
end


def InsGood (i : Str × Int) : Prop := ∃ y, sortOf i.1 = some y ∧ -1 ≤ i.2 ∧ i.2 < 1000000000 ∧ (y = sPLAIN → 0 ≤ i.2 ∧ i.2 < 45)
def CodeGood (c : List (Str × Int)) : Prop := c.length ≤ 60 ∧ ∀ i ∈ c, InsGood i
theorem CodeGood.words {c : List (Str × Int)} (h : CodeGood c) : WordsOk c := fun i hi => let ⟨y, hy, _⟩ := h.2 i hi; ⟨y, hy⟩

noncomputable def starred (c : List (Str × Int)) (i : Nat) : Bool := c.any fun p => isJump p.1 && p.2 == (i : Int)
noncomputable def lineText (b : Bool) (i : Nat) (x : Str) (k : Int) : Str := (if b then Str.ofString "*" else Str.ofString " ") ++ Str.ofString (toString (i : Int)) ++ Str.ofString " " ++ x ++ opText x k
noncomputable def linesOf (c : List (Str × Int)) : List Str := c.mapIdx fun i p => lineText (starred c i) i p.1 p.2
noncomputable def codeText (c : List (Str × Int)) : Str := Txt.join (Str.ofString "") ((linesOf c).map (· ++ Str.ofString "\n"))
theorem strs_mem {vl : List Value} {xs : List Str} (h : StrsAre vl xs) {v : Value} (hv : v ∈ vl) : ∃ x t, v = .str x t ∧ x ∈ xs := by
  induction h with
  | nil => cases hv
  | cons y u _ ih =>
    rcases List.mem_cons.mp hv with rfl | hv
    · exact ⟨y, u, rfl, .head _⟩
    · obtain ⟨x, t, h1, h2⟩ := ih hv
      exact ⟨x, t, h1, .tail _ h2⟩
theorem lines_short {c : List (Str × Int)} (h : CodeGood c) : ∀ x ∈ linesOf c, x.length ≤ 200 := by
  intro X hX
  obtain ⟨i, hi, rfl⟩ := List.getElem_of_mem hX
  have hi' : i < c.length := by simpa [linesOf] using hi
  obtain ⟨y, hy, q0, q9, qp⟩ := h.2 _ (List.getElem_mem hi')
  have e : (linesOf c)[i] = lineText (starred c i) i c[i].1 c[i].2 := by simp [linesOf]
  rw [e]
  unfold lineText
  have h1 := sort_short hy
  have h2 := opText_short (x := c[i].1) q0 q9
  have h3 := int_short (k := (i : Int)) (by omega) (by have := h.1; omega)
  have h4 : (if starred c i = true then Str.ofString "*" else Str.ofString " ").length = 1 := by split <;> decide
  have h5 : (Str.ofString " ").length = 1 := by decide
  simp only [Str.length_append]
  omega
theorem sum_le_of {K : Nat} : ∀ {l : List Str}, (∀ x ∈ l, x.length ≤ K) → (l.map (·.length)).sum ≤ K * l.length
  | [], _ => by simp
  | x :: r, h => by
    have h1 := sum_le_of (K := K) (l := r) fun y hy => h y (.tail _ hy)
    have h2 := h x (.head _)
    simp only [List.map_cons, List.sum_cons, List.length_cons, Nat.mul_add, Nat.mul_one]
    omega
theorem grown {l : Addr} {vl : List Value} {v : Value} {n : Nat} {X : Addr × Obj} : [(l, listOf (vl.toArray.push v) n), X] = [(l, listOf (vl ++ [v]).toArray n), X] := by simp
theorem strs_snoc {vl : List Value} {xs : List Str} (h : StrsAre vl xs) (x : Str) (t : Tok) : StrsAre (vl ++ [.str x t]) (xs ++ [x]) := by
  induction h with
  | nil => exact .cons _ _ .nil
  | cons y u _ ih => exact .cons y u ih
theorem met_starred {c : List (Str × Int)} {ns : List Int} (h : IsMet c ns) (i : Nat) : (ns.any fun x => x == (i : Int)) = starred c i := by
  have e : (ns.any fun x => x == (i : Int)) = decide ((i : Int) ∈ ns) := by
    rw [Bool.eq_iff_iff, decide_eq_true_eq, List.any_eq_true]
    exact ⟨fun ⟨x, h1, h2⟩ => (eq_of_beq h2) ▸ h1, fun h => ⟨_, h, beq_self_eq_true _⟩⟩
  rw [e]
  unfold starred
  rw [Bool.eq_iff_iff, decide_eq_true_eq, List.any_eq_true, h.2]
  constructor
  · rintro ⟨x, h1, h2⟩
    exact ⟨(x, i), h1, by simp [h2]⟩
  · rintro ⟨⟨x, k⟩, h1, h2⟩
    simp only [Bool.and_eq_true, beq_iff_eq] at h2
    exact ⟨x, by rw [← h2.2]; exact h1, h2.1⟩

section
variable {prog : Program} {w : World} {A : Around} {E : Value → Shared → Prop} {s : Shared} {env : Env} {h₀ : Heap} {L : Addr} {m : Str → Option Value} {news : List (Addr × Obj)}
theorem paired_strs {f : Str → Str} {vs : List Value} {ss : List Str} (h : StrsAre vs ss) : ∀ {ys : List Value}, Paired (fun v y => ∀ x t, v = Value.str x t → ∃ t', y = Value.str (f x) t') vs ys → StrsAre ys (ss.map f) := by
  induction h with
  | nil => intro ys hp; cases hp; exact .nil
  | cons x t _ ih =>
    intro ys hp
    cases hp with
    | cons h1 h2 =>
      obtain ⟨t', rfl⟩ := h1 x t rfl
      exact .cons _ _ (ih h2)
theorem comp_list {scope : Scope} {x : Str} {elt : Expr} {l : Addr} {vs : List Value} {Q : Value → Shared → Prop} (hh : A.handled = none) (F : Fr h₀ L s.heap m) (N : News h₀ L s.heap news) (hl : s.heap.IsList l vs.toArray) (hn : vs.length ≤ sizeLine) (G : Value → Value → Prop)
    (helt : ∀ C v s₃ m₃ E', v ∈ vs → s₃.heap.Ns C m₃ → m₃ x = some v → wpAny (model prog w) A (eval elt (compEnv scope C env)) (fun y s₄ => G v y ∧ Keeps s₃ s₄) E' s₃)
    (h : ∀ D h' tk ys n, Fr h₀ L h' m → News h₀ L h' ((D, listOf ys.toArray n) :: news) → Paired G vs ys → Q (.ref D) { s with heap := h', toks := tk }) :
    wpAny (model prog w) A (pyIter (.ref l)) (CompPost prog w A env scope x [] elt Q) E s := by
  have hlt : l < s.heap.objs.size := by obtain ⟨o, ho, _⟩ := hl; exact Heap.lt_size ho
  have hne : l ≠ s.heap.objs.size := Nat.ne_of_lt hlt
  refine wpAny_pyIter_list hl ?_
  refine ⟨fun _ => true, G, _, _, _, _, _, _, rfl, Walks.list hh s.heap.objs.size l hne vs.toArray, by simpa using hn, ⟨⟨_, Heap.get?_push_size _ rfl, rfl, rfl⟩, hl.at fun o e => Heap.get?_push_of_some _ e⟩, ?_, ⟨?_, ?_⟩, ?_⟩
  · intro b hb
    have e : (s.heap.push { cls := .type "list_iterator", data := .fields #[.ref l, rawInt 0] }).objs.size = s.heap.objs.size + 1 := size_push' _ _
    show b < (s.heap.push _).objs.size
    rw [size_push']
    rcases List.mem_cons.mp hb with e | hb
    · rw [e]; exact Nat.lt_succ_self _
    · rw [List.mem_singleton.mp hb]; exact Nat.lt_succ_of_lt hlt
  · intro C i v s₃ m₃ E' hP hNs hx hk ht
    rw [List.forIn_nil]
    exact wpAny_pure ⟨rfl, s₃.heap, s₃.toks, rfl, fun _ _ e => e⟩
  · intro C i v s₃ m₃ E' hP _ hNs hx hk ht
    have hv : v ∈ vs := by
      have : vs.toArray[i]? = some v := hP
      rw [List.getElem?_toArray] at this
      exact List.mem_of_getElem? this
    exact helt C v s₃ m₃ E' hv hNs hx
  · intro D h' tk ys vs' hD hys hpl hlen hP hpair hk
    have hvs : vs' = vs := by
      refine List.ext_getElem? fun j => ?_
      cases e : vs'[j]? with
      | none =>
        have h1 := List.getElem?_eq_none_iff.mp e
        exact (List.getElem?_eq_none_iff.mpr (by rw [hlen] at h1; simpa using h1)).symm
      | some v =>
        have : vs.toArray[j]? = some v := hP j v e
        rw [List.getElem?_toArray] at this
        exact this.symm
    subst hvs
    rw [List.filter_eq_self.mpr (fun _ _ => rfl)] at hpair
    have hkeep : ∀ b o, s.heap.get? b = some o → h'.get? b = some o := fun b o e => by
      refine hk b o ?_ (Heap.get?_push_of_some _ e)
      intro hI
      rw [List.mem_singleton.mp hI] at e
      exact absurd (Heap.lt_size e) (Nat.lt_irrefl _)
    obtain ⟨n, hn'⟩ := hpl
    have hDs : s.heap.get? D = none := by
      cases e : s.heap.get? D with
      | none => rfl
      | some o => have := Heap.get?_push_of_some (h := s.heap) { cls := .type "list_iterator", data := .fields #[.ref l, rawInt 0] } e; exact absurd (hD.symm.trans this) (by simp)
    refine h D h' tk ys.toList n (fr_kept F hkeep) ?_ hpair
    intro q hq
    rcases List.mem_cons.mp hq with rfl | hq
    · refine ⟨by simpa using hn', fun z => ?_, ?_⟩
      · obtain ⟨oL, es, ep, hL, _⟩ := F.ns
        dsimp only at z
        rw [z, hL] at hDs; cases hDs
      · cases e : h₀.get? D with
        | none => rfl
        | some o => have := F.keep D o e; rw [hDs] at this; cases this
    · exact news_kept N hkeep q hq
end

theorem text_end {z : Str} {a b c d e f : Option Value} (hz : [Str.ofString "place", Str.ofString "word", Str.ofString "operand", Str.ofString "star"].contains z = false) :
    (if z = Str.ofString "star" then a else if z = Str.ofString "operand" then b else if z = Str.ofString "word" then c else if z = Str.ofString "place" then d else if [Str.ofString "place", Str.ofString "word", Str.ofString "operand", Str.ofString "star"].contains z = true then e else f) = f := by
  have z1 : z ≠ Str.ofString "place" := fun e => by rw [e] at hz; exact absurd hz (by decide)
  have z2 : z ≠ Str.ofString "word" := fun e => by rw [e] at hz; exact absurd hz (by decide)
  have z3 : z ≠ Str.ofString "operand" := fun e => by rw [e] at hz; exact absurd hz (by decide)
  have z4 : z ≠ Str.ofString "star" := fun e => by rw [e] at hz; exact absurd hz (by decide)
  rw [if_neg z4, if_neg z3, if_neg z2, if_neg z1, if_neg (by rw [hz]; decide)]
theorem ite_str {M : Model} {A : Around} {E : Value → Shared → Prop} {s : Shared} {env : Env} {b : Bool} {x y : Str} {k k' : Tok} {p p' : Pos} {Q : Value → Shared → Prop} (hx : x.length ≤ 1) (hy : y.length ≤ 1)
    (h : ∀ z : Str, z = (if b = true then x else y) → z.length ≤ 1 → Q (.str z s.toks) { s with toks := s.toks + 1 }) : if b = true then wpAny M A (eval (.Constant (.str x) k p) env) Q E s else wpAny M A (eval (.Constant (.str y) k' p') env) Q E s := by
  cases b
  · exact wpAny_Constant_str (h y rfl hy)
  · exact wpAny_Constant_str (h x rfl hx)
section
local macro_rules | `(tactic| walk_at "PAD") => `(tactic| skip)
set_option hygiene false in
local macro_rules | `(tactic| walk_at "ite") => `(tactic| (refine ite_str (by decide) (by decide) ?_; intro z9 hz9 hl9))

theorem text_spec {prog : Program} {w : World} {dp un : Nat} {gd : Option (List Code)} {cn : Str} {cs : Scope} {a : Addr} {ccd : Value} {cl : List (Str × Addr)} {outer : List Env} {A₀ : Around} {base h₀ : Heap} {L : Addr} {m : Str → Option Value} {s : Shared} {Q E : Value → Shared → Prop} {loose : List Str} {mean : ExcName → Option Value} {mg mb : Str → Option Value}
  {l : Addr} {c : List (Str × Int)} {news : List (Addr × Obj)}
  (B : Below A₀ base outer h₀) (F : Fr h₀ L s.heap m) (X : (Mine.heapK w.params).In h₀) (N : News h₀ L s.heap news) (T : Top Mine.hd.view_433 loose mean mg mb h₀) (hk : cs.kind = .function)
  (hd : dp + 40 < recursionLimit) (hu : un + 200 < cLine) (hc : CodeAt s.heap l c) (hg : CodeGood c)
  (ret : ∀ h' tk' t', Kept [] s.heap h' → Fr h₀ L h' m → News h₀ L h' news → Q (.str (codeText c) t') { s with heap := h', toks := tk' }) :
  wpAny (model prog w) (ktrTop dp un gd cn cs L a ccd cl outer) (call (.ref 145) [.ref l]) Q E s := by
  refine wpAny_call ?_
  k_dflt (refine' code_defM (binds := [(Str.ofString "code", .ref l)]) ?k1 ?k2 ?k3 ?k4 ?k5 ?kA ?kF ?kK ?k6 ?k7 ?k8 ?k9 ?kB ?_ ?c2 ?c3 ?c4 ?c5; (case kA => exact rfl); (case kF => exact rfl); (case kK => assumption); (case k1 => k_asm); (case k2 => k_asm); (case k3 => k_asm); (case k4 => exact News.nil); (case k5 => k_asm); (case k6 => k_is); (case k7 => k_is); (case k8 => k_room); (case k9 => exact BindsTo.of_eq rfl); (case c5 => decide); (case kB => exact locs rfl); (case c2 => exact rfl); (case c3 => exact rfl); (case c4 => exact rfl); k_whole)
  intro g L' h' tk hG hG' hL' FG' F' N' B' X' T'
  have hcg : CodeAt g l c := hc.kept fun b o e => hG b o e (by simp)
  have kept : ∀ (h' : Heap) L' m', Fr g L' h' m' → Kept [] s.heap h' ∧ Fr h₀ L h' m ∧ News h₀ L h' news := fun h' L' m' F' =>
    have k : Kept [] s.heap h' := fun b o e n => F'.keep b o (hG b o e n)
    ⟨k, fr_kept F k.all, news_kept N k.all⟩
  have hw := hg.words
  have hlen := hg.1
  clear F N B X T
  (try dsimp only)
  k_steps
  refine Stop.of ?_
  k_dflt (refine met_spec (by k_asm) (by k_asm) (by k_asm) (by k_asm) (by k_asm) (by first | exact rfl | assumption) (by (try dsimp only); omega) (by (try dsimp only); omega) (by exact CodeAt.kept (by assumption) (Fr.keep (by k_asm))) (by assumption) (by assumption) ?_)
  intro h1 tk1 D1 vs1 ns1 e1 hM hZ hI hK1 hD1 F' N'
  (try dsimp only)
  (try k_fold)
  k_steps
  refine Stop.of ?_
  obtain ⟨vs, hl, hvl, hvi⟩ := hcg
  rename_i h2 l2 h3 l2D h4 F1 N1
  refine enum_list rfl F1 N1 (fun i m₁ news₁ => ∃ (vl : List Value) (n : Nat), news₁ = [(l2, listOf vl.toArray n), (D1, listOf vs1.toArray e1)] ∧ StrsAre vl ((linesOf c).take i) ∧
    ∀ z, [Str.ofString "place", Str.ofString "word", Str.ofString "operand", Str.ofString "star"].contains z = false → m₁ z = if z = Str.ofString "lines" then some (Value.ref l2) else if z = Str.ofString "marks" then some (Value.ref D1) else List.lookup z [(Str.ofString "code", Value.ref l)].reverse)
    ⟨[], 0, rfl, by simpa using StrsAre.nil, fun _ _ => rfl⟩ (.inl hl) ?_ ?_
  · intro i v T t m₁ news₁ h₁ tk₁ own hv hJ hoff F₂ N₂ hT
    (try (refine fold_ ?_; k_fold))
    obtain ⟨vl, n, rfl, hS, hm⟩ := hJ
    have hi : i < c.length := by rw [← hvl]; exact (List.getElem?_eq_some_iff.mp hv).1
    obtain ⟨⟨x, k⟩, hxk⟩ : ∃ p, c[i]? = some p := ⟨_, List.getElem?_eq_getElem hi⟩
    obtain ⟨ta, tt, tu, e1, e2⟩ := hvi i x k hxk
    rw [hv] at e1
    cases e1
    obtain ⟨y, hy, q0, q9, qp⟩ := hg.2 (x, k) (List.mem_of_getElem? hxk)
    dsimp only at hy q0 q9 qp
    rw [map_form _ hm] at F₂
    simp only [List.cons_append, List.nil_append] at N₂
    have hx30 := sort_short hy
    have ho60 := opText_short (x := x) q0 q9
    have hxl : x.length ≤ sizeLine := by rw [sizeLine_eq]; omega
    have hol : (opText x k).length ≤ sizeLine := by rw [sizeLine_eq]; omega
    have hvl9 : vl.length = i := by
      have h1 := hS.length
      rw [h1, List.length_take]
      have : (linesOf c).length = c.length := by simp [linesOf]
      omega
    have hvl8 : vl.toArray.size ≤ sizeLine := by rw [List.size_toArray, sizeLine_eq]; omega
    refine unpackN_ F₂ N₂ hT rfl rfl rfl fun h₂ F₃ N₃ => ?_
    have hT9 : (linesOf c)[i]? = some (lineText (starred c i) i x k) := by
      unfold linesOf
      rw [List.getElem?_mapIdx, hxk]
      rfl
    have tk9 : (linesOf c).take (i + 1) = (linesOf c).take i ++ [lineText (starred c i) i x k] := by rw [List.take_add_one, hT9]; rfl
    have hb9 := met_starred hM i
    k_steps
    refine Stop.of ?_
    k_dflt (refine optext_spec (by k_asm) (by k_asm) (by k_asm) (by k_asm) (by k_asm) (by first | exact rfl | assumption) (by (try dsimp only); omega) (by (try dsimp only); omega) (by assumption) (by assumption) (by assumption) (by assumption) ?_)
    intro h' tk' t' hK' F' N'
    (try dsimp only)
    (try k_fold)
    k_steps
    rw [hb9] at hz9
    subst hz9
    refine ⟨_, _, _, [(l2, _), (D1, _)], rfl, by assumption, by assumption, by exact hoff, _, _, grown, ?_, fun z hz => text_end hz⟩
    rw [tk9, show lineText (starred c i) i x k = Str.empty ++ (if starred c i = true then Str.ofString "*" else Str.ofString " ") ++ Str.ofString (toString (i : Int)) ++ Str.ofString " " ++ x ++ opText x k from by cases starred c i <;> rfl]
    exact strs_snoc hS _ _
  · intro h₂ tk₂ m₂ news₂ F₂ N₂ hJ
    (try (refine fold_ ?_; k_fold))
    obtain ⟨vl, n, rfl, hS, hm⟩ := hJ
    rw [map_form _ hm] at F₂
    k_steps
    have hl30 : vl.length ≤ 60 := by
      rw [hS.length, List.length_take]
      omega
    have hlist : h₂.IsList l2 vl.toArray := ⟨_, (N₂ _ (.head _)).1, rfl, n, rfl⟩
    refine comp_list rfl (by assumption) (by assumption) hlist (by rw [sizeLine_eq]; omega) (fun v y => ∀ x t, v = Value.str x t → ∃ t', y = Value.str (x ++ Str.ofString "\n") t') ?_ ?_
    · intro C v s₃ m₃ E' hv hNs hx
      obtain ⟨X, Xt, rfl, hX⟩ := strs_mem hS hv
      have hX2 := lines_short hg X (List.mem_of_mem_take hX)
      refine wpAny_BinOp (wpAny_Name (wpAny_loadName_local rfl rfl hNs hx ?_))
      refine wpAny_Constant_str ?_
      refine PyProof.Rows.add_str (fun t' tk => ⟨fun x t e => ?_, s₃.heap, tk, rfl, fun _ _ e => e⟩) ?_
      · cases e; exact ⟨_, rfl⟩
      · have h5 : (Str.ofString "\n").length = 1 := by decide
        rw [sizeLine_eq, h5]; omega
    · intro D h' tk ys n' F' N' hP
      have hys := paired_strs (f := (· ++ Str.ofString "\n")) hS hP
      have hall : List.take vs.length (linesOf c) = linesOf c := by
        rw [List.take_of_length_le]
        simp [linesOf, hvl]
      rw [hall] at hys
      have hlist' : h'.IsList D ys.toArray := ⟨_, (N' _ (.head _)).1, rfl, n', rfl⟩
      (try dsimp only)
      k_steps
      refine join_list hlist' hys ?_ (fun t' kk => ?_)
      · have h1 := sum_le_of (K := 201) (l := (linesOf c).map (· ++ Str.ofString "\n")) (by
          intro x hx
          obtain ⟨y, hy, rfl⟩ := List.mem_map.mp hx
          have := lines_short hg y hy
          have h5 : (Str.ofString "\n").length = 1 := by decide
          simp only [Str.length_append]
          omega)
        have h2 : ((linesOf c).map (· ++ Str.ofString "\n")).length ≤ 60 := by simp [linesOf]; exact hlen
        have h3 : (Str.ofString "").length = 0 := by decide
        rw [h3]
        omega
      · refine leaveK_ F' N' ?_
        intro _ _
        obtain ⟨k1, k2, k3⟩ := kept _ _ _ F'
        exact ret _ _ _ k1 k2 k3
end


theorem refuse_exc (self : Value) : refuseLoop self "__setattr__" [.ref 130, .type "Exception", .type "BaseException", .type "object"] = pure () := by
  rw [refuseLoop_ref]
  kernel_rfl

/-- a BadText that is made: t its args' tuple, d its dict -/
noncomputable abbrev excObj (d : Option Addr) (t : Addr) : Obj := { cls := .ref 130, dict := d, data := .fields #[.ref t, .none, .none, .none, .bool false, .none] }

noncomputable abbrev bm9 : List Value := [.type "Exception", .type "BaseException", .type "object"]
/-- the class BadText as it stands -/
inductive Cls130 (w : World) : Prop
  | mk (nm q : Str) (bs : List Value) (hdct : Bool) (sn : List Str) (sub : List Value) (ab : Bool) (col : Option Bool) (dd : Option Addr) (k0 k1 k2 k3 k5 : Option Value)
    (h : (Mine.heapK w.params).lookup 130 = some (excClassObj nm q 130 129 bs bm9 hdct sn sub ab col dd k0 k1 k2 k3 k5 "Exception.__new__")) : Cls130 w
theorem cls130 (w : World) : Cls130 w := ⟨_, _, _, _, _, _, _, _, _, _, _, _, _, _, by rfl⟩
theorem clsIn130 (w : World) : ∃ cd, clsIn (Mine.heapK w.params) 130 = some cd ∧ cd.mro = .ref 130 :: bm9 ∧ cd.hasDict = true := ⟨_, by rfl, by rfl, by rfl⟩

section
variable {prog : Program} {w : World} {A : Around} {E : Value → Shared → Prop} {R : Result → Shared → Prop} {s : Shared} {x : Addr} {h₀ : Heap} {L : Addr} {m : Str → Option Value} {news : List (Addr × Obj)}
theorem exc_open {d : Option Addr} {t : Addr} {name : Str} {tk : Tok} {v : Value} (X : (Mine.heapK w.params).In s.heap) (hx : s.heap.get? x = some (excObj d t)) (hd : ∀ dx, d = some dx → ∃ o, s.heap.get? dx = some o) (ht : findIn (Mine.heapK w.params) (.ref 130) name = some none)
    (h : wpAny (model prog w) A.in1 (Builtin.ObjectAttr.storeInOwnDict (.ref x) (.ref 130) (.str name tk) name v false)
      (fun fin s' => match fin with | .done f => R (.ok f) s' | .again c' => c'.quiet = true ∧ codeAny (model prog w) A c' R s') (fun e s' => R (.error e) s') s) :
    codeAny (model prog w) A (.call (.builtin "object.__setattr__") ⟨[.ref x, .str name tk, v], []⟩) R s := by
  have SF := PySem.F.store_object
  obtain ⟨cd, hc, hmro, hdict⟩ := clsIn130 w
  have hT : Looks (model prog w) s.heap (typeOf (.ref x)) (.ref 130) := by
    intro A E s' Q hk hq
    exact wpAny_bind (wpAny_loadPart (hk _ _ hx) (wpAny_pure hq))
  have sub : Looks (model prog w) s.heap (isInstance (.ref x) (.type "object")) true :=
    hT.andThen (looks_mroIn X (by unfold mroIn; rw [hc, Option.bind_some, hmro]; rfl))
  refine codeAny_call_builtin SF.slot.plain SF.entry (@check_slot (model prog w) _ _ s "object.__setattr__" "object" "__setattr__" (.ref x) [.str name tk, v] [] _ SF.kind SF.split sub (SF.args (.ref x) (.str name tk) v) ?_)
  have hm : Looks (model prog w) s.heap (mroOf (.ref 130)) cd.mro := (looks_clsIn X hc).andThen .now
  rw [osa_eq, refuse_eq]
  refine wpAny_bind (wpAny_bind (hT.here (wpAny_bind (hm.here ?_))))
  rw [hmro, refuse_exc]
  refine wpAny_pure (wpAny_bind (hT.here (wpAny_bind ((looks_findIn X ht).here (wpAny_bind ?_)))))
  exact wpAny_pure h
end

section
variable {prog : Program} {w : World} {A : Around} {E : Value → Shared → Prop} {R : Result → Shared → Prop} {s : Shared} {x : Addr}
theorem ns_store {d : Addr} {name : Str} {tk : Tok} {v : Value} {es : List DictEntry} {n : Nat} {Q : Fin → Shared → Prop} (hd : s.heap.get? d = some (dictOf es n)) (hkeys : es.all (fun e => match e.key with | .str _ _ => true | _ => false) = true) (hz : es.length ≤ 100)
    (h : ∀ h' es' n', h'.get? d = some (dictOf es' n') → es'.all (fun e => match e.key with | .str _ _ => true | _ => false) = true → es'.length ≤ es.length + 1 → Heap.SameBut d s.heap h' → Q (.done (.ret .none)) { s with heap := h', toks := s.toks + 1 }) :
    wpAny (model prog w) A (Builtin.ObjectAttr.storeInDict d (.str name tk) name v) Q E s := by
  refine wpAny_bind (wpAny_pure (wpAny_bind ?_))
  unfold nsSet
  refine wpAny_bind (wpAny_bind (wpAny_askSetting (wpAny_pure (wpAny_bind (wpAny_mkText (wpAny_bind (wpAny_loadPart hd ?_)))))))
  dsimp only
  have hno : es.any (·.refKey) = false := by
    rw [List.any_eq_false]
    intro e he
    have := List.all_eq_true.mp hkeys e he
    unfold DictEntry.refKey
    cases q : e.key <;> rw [q] at this <;> first | exact (Bool.false_ne_true this).elim | (intro z; exact Bool.false_ne_true z)
  have c : (!es.toArray.any (·.key.isStr name) && es.toArray.any (·.refKey)) = false := by
    rw [← Array.any_toList, ← Array.any_toList]
    show (_ && es.any (·.refKey)) = false
    rw [hno, Bool.and_false]
  rw [aRefKeyMayBeTheName_at, c]
  refine wpAny_updatePart hd ?_
  have hput : ∀ hash key, Obj.putName name hash key v (dictOf es n) = dictOf (putL name hash key v es) (putN name es n) := fun hash key => putName_dict ..
  have hD : ∀ hash key, (s.heap.update d (Obj.putName name hash key v)).get? d = some (dictOf (putL name hash key v es) (putN name es n)) := fun hash key => by
    rw [← hput hash key]
    exact Heap.get?_update_self _ hd (by rw [hput]; rfl)
  have hlen : ∀ hash key, (putL name hash key v es).length ≤ es.length + 1 := fun hash key => by
    clear hkeys hno c hd hput hD hz h
    induction es with
    | nil => exact Nat.le_refl _
    | cons e r ih =>
      unfold putL
      split
      · simp
      · simp only [List.length_cons]; omega
  have hk2 : ∀ hash t, (putL name hash (.str name t) v es).all (fun e => match e.key with | .str _ _ => true | _ => false) = true := fun hash t => by
    clear hno c hd hput hD hz h hlen
    induction es with
    | nil => rfl
    | cons e r ih =>
      rw [List.all_cons, Bool.and_eq_true] at hkeys
      unfold putL
      split
      · rw [List.all_cons, Bool.and_eq_true]; exact hkeys
      · rw [List.all_cons, Bool.and_eq_true]; exact ⟨hkeys.1, ih hkeys.2⟩
  refine wpAny_bind (wpAny_lookBehind (hD _ _) (pastItsLine_dict ?_) ?_)
  · rw [List.size_toArray, sizeLine_eq]
    exact Nat.le_trans (hlen _ _) (by omega)
  · exact wpAny_pure (h _ _ _ (hD _ _) (hk2 _ _) (hlen _ _) (Heap.SameBut.update ..))

theorem exc_set_more {d : Addr} {t : Addr} {name : Str} {tk : Tok} {v : Value} {es : List DictEntry} {n : Nat} (X : (Mine.heapK w.params).In s.heap) (hx : s.heap.get? x = some (excObj (some d) t)) (ht : findIn (Mine.heapK w.params) (.ref 130) name = some none)
    (hd : s.heap.get? d = some (dictOf es n)) (hkeys : es.all (fun e => match e.key with | .str _ _ => true | _ => false) = true) (hz : es.length ≤ 100)
    (h : ∀ h' es' n', h'.get? d = some (dictOf es' n') → es'.all (fun e => match e.key with | .str _ _ => true | _ => false) = true → es'.length ≤ es.length + 1 → Heap.SameBut d s.heap h' → R (.ok (.ret .none)) { s with heap := h', toks := s.toks + 1 }) :
    codeAny (model prog w) A (.call (.builtin "object.__setattr__") ⟨[.ref x, .str name tk, v], []⟩) R s := by
  refine exc_open X hx (fun dx e => by cases e; exact ⟨_, hd⟩) ht ?_
  obtain ⟨cd, hc, hmro, hdict⟩ := clsIn130 w
  refine wpAny_bind (wpAny_pure (wpAny_bind (wpAny_bind (wpAny_loadPart hx (wpAny_bind ((looks_clsIn X hc).here ?_))))))
  rw [hdict]
  refine wpAny_pure (a := some d) ?_
  exact ns_store hd hkeys hz h

theorem exc_set_new {t : Addr} {name : Str} {tk : Tok} {v : Value} (X : (Mine.heapK w.params).In s.heap) (hx : s.heap.get? x = some (excObj none t)) (ht : findIn (Mine.heapK w.params) (.ref 130) name = some none)
    (h : ∀ h' d es' n', s.heap.get? d = none → h'.get? d = some (dictOf es' n') → h'.get? x = some (excObj (some d) t) → es'.all (fun e => match e.key with | .str _ _ => true | _ => false) = true → es'.length ≤ 1 → Kept [x] s.heap h' → R (.ok (.ret .none)) { s with heap := h', toks := s.toks + 1 }) :
    codeAny (model prog w) A (.call (.builtin "object.__setattr__") ⟨[.ref x, .str name tk, v], []⟩) R s := by
  refine exc_open X hx (fun dx e => by cases e) ht ?_
  obtain ⟨cd, hc, hmro, hdict⟩ := clsIn130 w
  refine wpAny_bind (wpAny_pure (wpAny_bind (wpAny_bind (wpAny_loadPart hx (wpAny_bind ((looks_clsIn X hc).here ?_))))))
  rw [hdict]
  show wpAny _ _ (do let d ← alloc { cls := .type "dict", data := .dict #[] }; update x (fun o => { o with dict := some d }); dictMade (.ref 130) x d) _ _ _
  have hxlt : x < s.heap.objs.size := Heap.lt_size hx
  have hxp := Heap.get?_push_of_some { cls := .type "dict", data := .dict #[] } hx
  have hxu : ((s.heap.push { cls := .type "dict", data := .dict #[] }).update x (fun o => { o with dict := some s.heap.objs.size })).get? x = some (excObj (some s.heap.objs.size) t) :=
    Heap.get?_update_self _ hxp rfl
  have hdu : ((s.heap.push { cls := .type "dict", data := .dict #[] }).update x (fun o => { o with dict := some s.heap.objs.size })).get? s.heap.objs.size = some (dictOf [] 0) := by
    rw [Heap.get?_update_other _ _ (Nat.ne_of_lt hxlt)]
    exact Heap.get?_push_size _ rfl
  refine wpAny_bind (wpAny_alloc (wpAny_bind (wpAny_update hxp (wpAny_pure ?_))))
  refine ns_store hdu rfl (by decide) fun h' es' n' h1 h2 h3 h4 => ?_
  refine h h' s.heap.objs.size es' n' (Heap.get?_none_of_le (Nat.le_refl _)) h1 ?_ h2 h3 ?_
  · rw [h4.2 x (Nat.ne_of_lt hxlt)]; exact hxu
  · intro b o e hb
    have hbx : b ≠ x := by simpa using hb
    rw [h4.2 b (Nat.ne_of_lt (Heap.lt_size e)), Heap.get?_update_other _ _ (Ne.symm hbx)]
    exact Heap.get?_push_of_some _ e
end

section
variable {prog : Program} {w : World} {A : Around} {E : Value → Shared → Prop} {s : Shared} {x : Addr} {h₀ : Heap} {L : Addr} {m : Str → Option Value}
abbrev StrKeyed (es : List DictEntry) : Prop := es.all (fun e => match e.key with | .str _ _ => true | _ => false) = true
theorem exc_attr1 {t : Addr} {name : Str} {v : Value} {Q : Unit → Shared → Prop} (F : Fr h₀ L s.heap m) (X : (Mine.heapK w.params).In h₀) (N : News h₀ L s.heap [(x, excObj none t)])
    (hs : findIn (Mine.heapK w.params) (.ref 130) "__setattr__" = some (some (.builtin "object.__setattr__"))) (ht : findIn (Mine.heapK w.params) (.ref 130) name = some none)
    (h : ∀ h' d es n, Fr h₀ L h' m → News h₀ L h' [(x, excObj (some d) t), (d, dictOf es n)] → @Ne Nat d x → StrKeyed es → es.length ≤ 1 → Q () { s with heap := h', toks := s.toks + 2 }) :
    wpAny (model prog w) A (setAttr (.ref x) name v) Q E s := by
  have hx := (N _ (.head _)).1
  have hxL := (N _ (.head _)).2.1
  have hx0 := (N _ (.head _)).2.2
  dsimp only at hx hxL hx0
  refine set_plain (od := none) (X.keeps F.keep) ⟨hx, rfl, rfl, trivial⟩ hs ?_
  refine exc_set_new (s := { s with toks := s.toks + 1 }) (X.keeps F.keep) hx ht fun h' d es n h1 h2 h3 h4 h5 h6 => ?_
  have hdx : d ≠ x := fun e => by dsimp only at h1; rw [e, hx] at h1; cases h1
  have hdL : d ≠ L := fun e => by
    obtain ⟨oL, _, _, hL, _⟩ := F.ns
    dsimp only at h1
    rw [e, hL] at h1; cases h1
  have hd0 : h₀.get? d = none := by
    cases e : h₀.get? d with
    | none => rfl
    | some o => have := F.keep d o e; dsimp only at h1; rw [h1] at this; cases this
  refine h h' d es n ?_ ?_ hdx h4 h5
  · obtain ⟨oL, es', ep', hL, r⟩ := F.ns
    exact ⟨⟨oL, es', ep', h6 _ _ hL (by simpa using Ne.symm hxL), r⟩, fun b o e => h6 b o (F.keep b o e) (by simp only [List.mem_singleton]; intro q; rw [q, hx0] at e; cases e), F.above⟩
  · intro q hq
    rcases List.mem_cons.mp hq with rfl | hq
    · exact ⟨h3, hxL, hx0⟩
    · rw [List.mem_singleton.mp hq]; exact ⟨h2, hdL, hd0⟩
theorem exc_attr2 {d t : Addr} {name : Str} {v : Value} {es : List DictEntry} {n : Nat} {Q : Unit → Shared → Prop} (F : Fr h₀ L s.heap m) (X : (Mine.heapK w.params).In h₀) (N : News h₀ L s.heap [(x, excObj (some d) t), (d, dictOf es n)])
    (hdx : @Ne Nat d x) (hk : StrKeyed es) (hz : es.length ≤ 1)
    (hs : findIn (Mine.heapK w.params) (.ref 130) "__setattr__" = some (some (.builtin "object.__setattr__"))) (ht : findIn (Mine.heapK w.params) (.ref 130) name = some none)
    (h : ∀ h' es' n', Fr h₀ L h' m → News h₀ L h' [(x, excObj (some d) t), (d, dictOf es' n')] → Q () { s with heap := h', toks := s.toks + 2 }) :
    wpAny (model prog w) A (setAttr (.ref x) name v) Q E s := by
  have hx := (N _ (.head _)).1
  have hd := N _ (.tail _ (.head _))
  dsimp only at hx
  refine set_plain (od := some (dictOf es n)) (X.keeps F.keep) ⟨hx, rfl, rfl, hd.1⟩ hs ?_
  refine exc_set_more (s := { s with toks := s.toks + 1 }) (X.keeps F.keep) hx ht hd.1 hk (by omega) fun h' es' n' h1 h2 h3 h4 => ?_
  refine h h' es' n' (F.change h4 hd.2.1 hd.2.2) ?_
  intro q hq
  rcases List.mem_cons.mp hq with rfl | hq
  · exact ⟨(h4.2 _ (Ne.symm hdx)).trans hx, (N _ (.head _)).2⟩
  · rw [List.mem_singleton.mp hq]; exact ⟨h1, hd.2⟩
end

section
local macro_rules | `(tactic| walk_at "setAttr ref") => `(tactic| (refine Stop.out ?_))

theorem init_spec {prog : Program} {w : World} {A : Around} {env : Env} {outer : List Env} {A₀ : Around} {base h₀ : Heap} {L : Addr} {m : Str → Option Value} {s : Shared} {Q E : Value → Shared → Prop} {loose : List Str} {mean : ExcName → Option Value} {mg mb : Str → Option Value}
  {x t : Addr} {v1 v2 : Value}
  (B : Below A₀ base outer h₀) (F : Fr h₀ L s.heap m) (X : (Mine.heapK w.params).In h₀) (T : Top Mine.hd.view_433 loose mean mg mb h₀)
  (hA : A.frames = some (env :: outer)) (hf : env.frame = some L) (hke : env.scope.kind = .function)
  (hd : A.depth + 8 < recursionLimit) (N : News h₀ L s.heap [(x, excObj none t)])
  (ret : ∀ h' tk' d, Kept [x] s.heap h' → h'.get? x = some (excObj (some d) t) → Q .none { s with heap := h', toks := tk' }) :
  wpAny (model prog w) A (call (.ref 127) [.ref x, v1, v2]) Q E s := by
  refine wpAny_call ?_
  k_dflt (refine' code_defM (binds := [(Str.ofString "self", .ref x), (Str.ofString "line", v1), (Str.ofString "word", v2)]) ?k1 ?k2 ?k3 ?k4 ?k5 ?kA ?kF ?kK ?k6 ?k7 ?k8 ?k9 ?kB ?_ ?c2 ?c3 ?c4 ?c5; (case kA => exact hA); (case kF => exact hf); (case kK => exact hke); (case k1 => k_asm); (case k2 => k_asm); (case k3 => k_asm); (case k4 => exact N); (case k5 => k_asm); (case k6 => k_is); (case k7 => k_is); (case k8 => omega); (case k9 => exact BindsTo.of_eq rfl); (case c5 => decide); (case kB => exact locs rfl); (case c2 => exact rfl); (case c3 => exact rfl); (case c4 => exact rfl); k_whole)
  intro g L' h' tk hG hG' hL' FG' F' N' B' X' T'
  clear F N B X T
  (try dsimp only)
  k_steps
  refine Stop.of ?_
  k_dflt (refine exc_attr1 (by k_asm) (by k_asm) (by k_asm) (by k_is) (by k_is) ?_)
  intro h8 d8 es8 n8 F8 N8 hdx hke8 hle8
  k_steps
  refine Stop.of ?_
  k_dflt (refine exc_attr2 (by k_asm) (by k_asm) (by k_asm) (by assumption) (by assumption) (by assumption) (by k_is) (by k_is) ?_)
  intro h9 es9 n9 F9 N9
  k_steps
  refine Stop.of (leaveK_ F9 N9 ?_)
  intro _ _
  exact ret _ _ _ (fun b o e n => F9.keep b o (hG b o e (by simpa using n))) (N9 _ (.head _)).1
end

theorem ns_some_of {K : Frag} {h : Heap} {D : Addr} {mg : Str → Option Value} {n : Str} {v : Value} (X : K.In h) (G : h.Ns D mg) (e : nsIn K D n = some (some v)) : mg n = some v := by
  obtain ⟨o, es, ep, ho, hd, _, hf⟩ := G
  unfold nsIn at e
  split at e
  · rename_i c d es' n' sl q
    have := X _ _ q
    rw [ho] at this
    cases this
    cases hd
    split at e
    · rename_i en he
      cases e
      rw [← hf]
      unfold nsFind findBy
      rw [← Array.find?_toList, he]
      rfl
    · split at e <;> cases e
  · cases e

section
variable {prog : Program} {w : World} {A : Around} {E : Value → Shared → Prop} {env : Env}
/-- what is raised: a made BadText, whatever its dict -/
structure BadMade (h h' : Heap) (e : Addr) : Prop where
  keeps : ∀ b o, h.get? b = some o → h'.get? b = some o
  new : h.get? e = none
  there : ∃ d t, h'.get? e = some (excObj d t)

theorem call_bad {outer : List Env} {A₀ : Around} {base h₀ : Heap} {L : Addr} {m : Str → Option Value} {s : Shared} {Q : Value → Shared → Prop} {loose : List Str} {mean : ExcName → Option Value} {mg mb : Str → Option Value} {v1 v2 : Value}
    (B : Below A₀ base outer h₀) (F : Fr h₀ L s.heap m) (X : (Mine.heapK w.params).In h₀) (T : Top Mine.hd.view_433 loose mean mg mb h₀)
    (hA : A.frames = some (env :: outer)) (hf : env.frame = some L) (hke : env.scope.kind = .function) (hd : A.depth + 20 < recursionLimit)
    (ret : ∀ h' tk' e, BadMade s.heap h' e → Q (.ref e) { s with heap := h', toks := tk' }) :
    wpAny (model prog w) A (call (.ref 130) [v1, v2]) Q E s := by
  have XS := X.keeps F.keep
  obtain ⟨nm, q, bs, hdct, sn, sub, ab, col, dd, k0, k1, k2, k3, k5, hcls⟩ := cls130 w
  have hC := XS _ _ hcls
  have hi : s.heap.Ns 129 (s.heap.nsMap 129) := .of_isNs (isNs_of_in XS (by kernel_rfl))
  have hinit : s.heap.nsMap 129 "__init__" = some (.ref 127) := ns_some_of XS hi (by k_is)
  obtain ⟨oI, hoI, hcI⟩ : ∃ oI, (Mine.heapK w.params).lookup 127 = some oI ∧ oI.cls = .type "function" := ⟨_, by rfl, rfl⟩
  obtain ⟨hp, g, d, tk, os⟩ := s
  refine wpAny_call_exc_init (hrest := by show 2 ≤ sizeLine; decide) PySem.F.excBase_Exception hC hi hinit (XS _ _ hoI) hcI fun h' e hm => ?_
  obtain ⟨t, he, _, _⟩ := hm.there
  have F' : Fr h₀ L h' m := fr_kept F hm.keeps
  have hN : News h₀ L h' [(e, excObj none t)] := by
    intro q hq
    rw [List.mem_singleton.mp hq]
    refine ⟨he, fun z => ?_, ?_⟩
    · obtain ⟨oL, _, _, hL, _⟩ := F.ns
      have hn := hm.new
      dsimp only at z hL
      rw [z, hL] at hn; cases hn
    · cases q : h₀.get? e with
      | none => rfl
      | some o => have h1 := F.keep e o q; have hn := hm.new; dsimp only at h1; rw [hn] at h1; cases h1
  refine init_spec (A := A.under _) B F' X T hA hf hke ?_ hN fun h'' tk' d' h1 h2 => ⟨rfl, ret h'' tk' e ⟨fun b o q => h1 b o (hm.keeps b o q) ?_, hm.new, d', t, h2⟩⟩
  · simp only [depth_under_make]
    omega
  · simp only [List.mem_singleton]
    intro z
    have hn := hm.new
    dsimp only at q
    rw [z, hn] at q; cases q
end

section
variable {M : Model} {A : Around} {E : Value → Shared → Prop} {s : Shared} {env : Env}
theorem raiseStmt_bad {nm q : Str} {C N : Addr} {bs bm : List Value} {hdct : Bool} {sn : List Str} {sub : List Value} {ab : Bool} {col : Option Bool} {dd : Option Addr} {k0 k1 k2 k3 k5 : Option Value} {newId : String}
    {x : Sem Value} {Q : Flow → Shared → Prop} (hbase : bm.contains (.type "BaseException") = true) (hh : A.handled = none)
    (h : wpAny M A x (fun v s₁ => ∃ e d t, v = .ref e ∧ s₁.heap.get? C = some (excClassObj nm q C N bs bm hdct sn sub ab col dd k0 k1 k2 k3 k5 newId) ∧
      s₁.heap.get? e = some { cls := .ref C, dict := d, data := .fields #[.ref t, .none, .none, .none, .bool false, .none] } ∧ E (.ref e) s₁) E s) :
    wpAny M A (raiseStmt env (some x) none) Q E s := by
  have hcB : (Value.ref C :: bm).contains (.type "BaseException") = true := by rw [List.contains_cons, hbase, Bool.or_true]
  unfold raiseStmt
  refine wpAny_bind (wpAny_mono h (fun v s₁ h₁ => ?_) fun _ _ x => x)
  obtain ⟨e, d, t, rfl, hC, he, hE⟩ := h₁
  obtain ⟨hp, g, d, tk, os⟩ := s₁
  repeat (first | with_reducible refine wpAny_loadPart_at he ?_ | with_reducible refine wpAny_loadPart_at hC ?_ | (with_reducible refine wpAny_isSubtype_exc hC ?_; rw [hcB]) | wp_step)
  exact wpAny_raiseNew_none hh hE
end

def BadGo (h₀ : Heap) (L : Addr) (m : Str → Option Value) (E : Value → Shared → Prop) (vs : List Value) (s₂ : Shared) : Prop :=
  (∃ v1 v2, vs = [v1, v2]) ∧ Fr h₀ L s₂.heap m ∧ ∀ h' tk' e, BadMade s₂.heap h' e → E (.ref e) { s₂ with heap := h', toks := tk' }

section
variable {prog : Program} {w : World} {A : Around} {E : Value → Shared → Prop}
theorem raise_bad {outer : List Env} {A₀ : Around} {base h₀ : Heap} {L a : Addr} {cn : Str} {cs : Scope} {ccd : Value} {cl : List (Str × Addr)} {m : Str → Option Value} {s : Shared} {Q : Flow → Shared → Prop} {loose : List Str} {mean : ExcName → Option Value} {mg mb : Str → Option Value} {np cpos pos : Pos} {a1 : Expr} {rest : List Expr}
    (B : Below A₀ base outer h₀) (F : Fr h₀ L s.heap m) (X : (Mine.heapK w.params).In h₀) (T : Top Mine.hd.view_433 loose mean mg mb h₀)
    (hA : A.frames = some (envX cn cs L a ccd cl :: outer)) (hke : cs.kind = .function) (hd : A.depth + 20 < recursionLimit) (hh : A.handled = none)
    (hx : (envX cn cs L a ccd cl).kindOf (Str.ofString "BadText") = some .globalImplicit)
    (he : starEach (a1 :: rest) (envX cn cs L a ccd cl) = (false, eval a1 (envX cn cs L a ccd cl)) :: starEach rest (envX cn cs L a ccd cl))
    (hplain : (backTo cpos (starEach rest (envX cn cs L a ccd cl))).any (·.1) = false)
    (h : wpAny (model prog w) A (spliced (backTo cpos (starEach (a1 :: rest) (envX cn cs L a ccd cl)))) (BadGo h₀ L m E) E s) :
    wpAny (model prog w) A (exec (.Raise (some (.Call (.Name (Str.ofString "BadText") np) (a1 :: rest) [] cpos)) none pos) (envX cn cs L a ccd cl)) Q E s := by
  obtain ⟨nm, q, bs, hdct, sn, sub, ab, col, dd, k0, k1, k2, k3, k5, hcls⟩ := cls130 w
  rw [arm_exec_Raise]
  refine wpAny_bind (wpAny_standAt (raiseStmt_bad (C := 130) (nm := nm) (q := q) (N := 129) (bs := bs) (bm := bm9) (hdct := hdct) (sn := sn) (sub := sub) (ab := ab) (col := col) (dd := dd) (k0 := k0) (k1 := k1) (k2 := k2) (k3 := k3) (k5 := k5) (newId := "Exception.__new__") rfl hh ?_))
  refine wpAny_bind (wpAny_mono (Q := fun v s₁ => ∃ e d t, v = .ref e ∧ s₁.heap.get? 130 = some (excClassObj nm q 130 129 bs bm9 hdct sn sub ab col dd k0 k1 k2 k3 k5 "Exception.__new__") ∧ s₁.heap.get? e = some (excObj d t) ∧ E (.ref e) s₁) (wpAny_Call_ofName ?_) (fun v s₃ h₃ => wpAny_bind (wpAny_standAt (wpAny_pure h₃))) fun _ _ x => x)
  refine nameX_K F X (topRead_of T) (by k_is) ?_ hke hx (by decide)
  unfold callWith
  rw [he] at h ⊢
  have key := Calls.evalArgs_plain (f := .ref 130) (Q := fun a' s₂ => a'.kw = [] ∧ BadGo h₀ L m E a'.pos s₂) (wpAny_mono h (fun vs s₂ h₂ => ⟨rfl, h₂⟩) fun _ _ y => y)
  refine wpAny_bind (wpAny_holding (wpAny_mono key (fun a' s₂ h₂ => wpAny_bind (wpAny_standAt ?_)) fun _ _ y => y))
  obtain ⟨apos, akw⟩ := a'
  obtain ⟨hkw, ⟨v1, v2, hv⟩, F₂, hgo⟩ := h₂
  dsimp only at hkw hv
  subst hkw hv
  have hpl : (List.any (backTo cpos ((false, eval a1 (envX cn cs L a ccd cl)) :: starEach rest (envX cn cs L a ccd cl))) (·.1) || List.any (backToKw cpos (keywordEach [] (envX cn cs L a ccd cl))) (·.1.isNone)) = false := by
    show ((false || (backTo cpos (starEach rest (envX cn cs L a ccd cl))).any (·.1)) || false) = false
    rw [hplain]; rfl
  have hC := (X.keeps F₂.keep) _ _ hcls
  obtain ⟨hp, g, d, tk, os⟩ := s₂
  refine wpAny_bind (wpAny_keeperOf_exc hC ?_)
  have hcall := call_bad (prog := prog) (w := w) (E := E) (Q := fun v s₁ => ∃ e d t, v = .ref e ∧ s₁.heap.get? 130 = some (excClassObj nm q 130 129 bs bm9 hdct sn sub ab col dd k0 k1 k2 k3 k5 "Exception.__new__") ∧ s₁.heap.get? e = some (excObj d t) ∧ E (.ref e) s₁) (v1 := v1) (v2 := v2) (env := envX cn cs L a ccd cl) B F₂ X T hA rfl hke hd
    (fun h' tk' e hB => by
      obtain ⟨d, t, ht⟩ := hB.there
      exact ⟨e, d, t, rfl, hB.keeps _ _ hC, ht, hgo h' tk' e hB⟩)
  simp only [hpl]
  refine wpAny_bind (wpAny_mono hcall (fun v s₁ h₁ => ?_) fun _ _ y => y)
  refine wpAny_bind (wpAny_holding (wpAny_point ?_))
  exact wpAny_pure h₁
end


local macro_rules | `(tactic| walk_at "exec Raise some none") => `(tactic| (k_here; k_dflt (refine raise_bad (by k_asm) (by k_asm) (by k_asm) (by k_asm) (by exact rfl) (by exact rfl) (by k_room) (by exact rfl) (by exact rfl) (by exact rfl) (by exact rfl) ?_)))

section
variable {M : Model} {A : Around} {E : Value → Shared → Prop} {s' : Shared} {base g h : Heap} {outer : List Env} {L a e : Addr} {m : Str → Option Value} {name : Str} {scope : Scope} {cd : Value} {cl : List (Str × Addr)} {Q : Unit → Shared → Prop}
theorem mem_frames {b : Addr} (hm : b ∈ (envX name scope L a cd cl :: outer).filterMap (·.frame)) : b = L ∨ b ∈ outer.filterMap (·.frame) := by
  obtain ⟨env, he, hf⟩ := List.mem_filterMap.mp hm
  rcases List.mem_cons.mp he with rfl | he
  · exact .inl (Option.some.inj hf).symm
  · exact .inr (List.mem_filterMap.mpr ⟨env, he, hf⟩)
/-- the raised BadText leaves the frame that made it -/
theorem leave_badS (K : Below A base outer g) (hx : BadMade h s'.heap e) (F : Fr g L h m)
    (hQ : ∀ h', RaisedSN base g outer e (.ref 130) [] h' → g.UpToSlots h' → Q () { s' with heap := h' }) (hk : scope.kind = .function := by rfl) :
    wpAny M (A.deeper (envX name scope L a cd cl)) (leaving (envX name scope L a cd cl) (.ref e)) Q E s' := by
  have K' := pushX (env := envX name scope L a cd cl) K F rfl hk
  have hin : ∀ env ∈ (envX name scope L a cd cl :: outer), ∀ b, env.frame = some b → b ∈ (envX name scope L a cd cl :: outer).filterMap (·.frame) := fun env he b hb => List.mem_filterMap.mpr ⟨env, he, hb⟩
  have st : base.StaysIn (hideAll h ((envX name scope L a cd cl :: outer).filterMap (·.frame))) := fun b o q => hideAll_get _ (K'.stays b o q) fun hm => by
    rw [(K'.frames.mem hm).1] at q; cases q
  have sg : ∀ b o, g.get? b = some o → b ∉ outer.filterMap (·.frame) → (hideAll h ((envX name scope L a cd cl :: outer).filterMap (·.frame))).get? b = some o := fun b o q nm => hideAll_get _ (F.keep b o q) fun hm => by
    rcases mem_frames hm with z | z
    · rw [z, kts_self F] at q
      cases q
    · exact nm z
  obtain ⟨d, t, he⟩ := hx.there
  have hen : (hideAll h ((envX name scope L a cd cl :: outer).filterMap (·.frame))).get? e = none := by
    cases q : (hideAll h ((envX name scope L a cd cl :: outer).filterMap (·.frame))).get? e with
    | none => rfl
    | some o => have := of_hideAll _ q; rw [hx.new] at this; cases this
  refine wpAny_leaving_firstW (a0 := .ref t) K'.stack ((funFrames_hide K'.frames hin).of_keeps fun b o hb _ => ⟨o, hx.keeps b o hb, rfl⟩) rfl he (fun b o hb => hx.keeps b o (of_hideAll _ hb)) hen rfl rfl rfl fun h' hL => ?_
  obtain ⟨k1, ⟨_, _, k2⟩, k3, k4⟩ := hL
  exact hQ h' ⟨_, .ref t, st, sg, (fun q hq => by cases hq), k1, hen, k2, k3⟩ (((Heap.UpToSlots.of_keeps F.keep).trans (Heap.UpToSlots.of_keeps hx.keeps)).trans k4)
end

/-- how a BadText comes out of a call: from s, through the frames l -/
def BadOut (base : Heap) (l : List Env) (E : Value → Shared → Prop) (s : Shared) : Prop :=
  ∀ h' tk' e, RaisedSN base s.heap l e (.ref 130) [] h' → s.heap.UpToSlots h' → E (.ref e) { s with heap := h', toks := tk' }
theorem raised_of {base g g' : Heap} {l : List Env} {e : Addr} {cls : Value} {h : Heap} (k : ∀ b o, g'.get? b = some o → g.get? b = some o) (R : RaisedSN base g l e cls [] h) : RaisedSN base g' l e cls [] h := by
  obtain ⟨B, a0, hB, hBG, _, hfl⟩ := R
  exact ⟨B, a0, hB, fun b o q nm => hBG b o (k b o q) nm, (fun q hq => by cases hq), hfl⟩

noncomputable def wholeOk (x : Str) : Bool := !(x == Str.ofString "") && decide (x.length ≤ 9) && ((x == Str.ofString "0") || !(x.cps.toList.headD 0 == 48)) && x.cps.toList.all fun c => decide (48 ≤ c) && decide (c ≤ 57)
noncomputable def wholeOf (x : Str) : Option Int := if wholeOk x then some ((PySem.NumText.digitsVal x.cps.toList : Nat) : Int) else none

theorem digit_in (c : Nat) : (!(PySem.Builtin.Str.occurrences (Str.ofString "0123456789") ⟨#[c]⟩ 0 (Str.ofString "0123456789").length 1).isEmpty) = decide (48 ≤ c ∧ c ≤ 57) := by
  rw [StrLaws.found_one, show (Str.ofString "0123456789").cps.toList = [48, 49, 50, 51, 52, 53, 54, 55, 56, 57] by decide +kernel]
  refine decide_eq_decide.mpr ?_
  rw [show [48, 49, 50, 51, 52, 53, 54, 55, 56, 57] = List.range' 48 10 from rfl, List.mem_range'_1]
  exact and_congr_right fun _ => Nat.lt_succ_iff
theorem item0_head {x : Str} (h : (x == Str.ofString "") = false) : (Txt.item x 0 == Str.ofString "0") = (x.cps.toList.headD 0 == 48) := by
  obtain ⟨⟨l⟩⟩ := x
  cases l with
  | nil => exact absurd h (by decide)
  | cons c r =>
    have e : Txt.item ⟨⟨c :: r⟩⟩ 0 = ⟨#[c]⟩ := by
      unfold Txt.item Txt.charAt
      rw [show seqIndex? 0 (Str.length ⟨⟨c :: r⟩⟩) = some 0 from seqIndex_zero (v := c) (l := r)]
      rfl
    rw [e, show Str.ofString "0" = ⟨#[48]⟩ by decide +kernel, one_beq]
    rfl
theorem whole_none {x : Str} (h : (x == Str.ofString "") = true ∨ 9 < x.length ∨ ((x != Str.ofString "0") = true ∧ (Txt.item x 0 == Str.ofString "0") = true) ∨
    ∃ a, a ∈ signs x ∧ (!!(PySem.Builtin.Str.occurrences (Str.ofString "0123456789") a 0 (Str.ofString "0123456789").length 1).isEmpty) = true) : wholeOf x = none := by
  unfold wholeOf
  have : wholeOk x = false := by
    cases q : wholeOk x with
    | false => rfl
    | true =>
      exfalso
      unfold wholeOk at q
      simp only [Bool.and_eq_true, Bool.not_eq_true', decide_eq_true_eq] at q
      obtain ⟨⟨⟨q1, q2⟩, q3⟩, q4⟩ := q
      rcases h with h | h | ⟨h1, h2⟩ | ⟨a, h1, h2⟩
      · rw [h] at q1; cases q1
      · omega
      · rw [← item0_head q1, h2] at q3
        unfold bne at h1
        rw [Bool.not_eq_true'] at h1
        rw [h1] at q3
        cases q3
      · obtain ⟨c, hc, rfl⟩ := List.mem_map.mp h1
        have h3 := List.all_eq_true.mp q4 c hc
        simp only [Bool.and_eq_true, decide_eq_true_eq] at h3
        rw [Bool.not_eq_true', digit_in, decide_eq_false_iff_not] at h2
        exact h2 h3
  rw [this]; rfl
theorem whole_ok {x : Str} (h1 : (x == Str.ofString "") = false) (h2 : ¬ (9 : Int) < (x.length : Int)) (h3 : (x != Str.ofString "0") = false ∨ (Txt.item x 0 == Str.ofString "0") = false)
    (h4 : ∀ a, a ∈ signs x → (!!(PySem.Builtin.Str.occurrences (Str.ofString "0123456789") a 0 (Str.ofString "0123456789").length 1).isEmpty) = false) : wholeOk x = true := by
  unfold wholeOk
  rw [h1, decide_eq_true (show x.length ≤ 9 by omega)]
  have e3 : ((x == Str.ofString "0") || !(x.cps.toList.headD 0 == 48)) = true := by
    rcases h3 with h3 | h3
    · unfold bne at h3
      rw [Bool.not_eq_false'] at h3
      rw [h3]; rfl
    · rw [← item0_head h1, h3, Bool.not_false, Bool.or_true]
  rw [e3]
  simp only [Bool.not_false, Bool.true_and]
  refine List.all_eq_true.mpr fun c hc => ?_
  have := h4 ⟨#[c]⟩ (List.mem_map_of_mem hc)
  rw [Bool.not_eq_false', digit_in, decide_eq_true_eq] at this
  simp only [Bool.and_eq_true, decide_eq_true_eq]
  exact this
theorem whole_int {x : Str} (h : wholeOk x = true) : wholeOf x = some ((PySem.NumText.digitsVal x.cps.toList : Nat) : Int) ∧ PySem.intText? x = some ((PySem.NumText.digitsVal x.cps.toList : Nat) : Int) ∧ x.length ≤ 9 := by
  refine ⟨by unfold wholeOf; rw [h]; rfl, ?_⟩
  unfold wholeOk at h
  simp only [Bool.and_eq_true, Bool.not_eq_true', decide_eq_true_eq] at h
  obtain ⟨⟨⟨q1, q2⟩, q3⟩, q4⟩ := h
  refine ⟨PySem.intText_digits (fun c hc => ?_) (fun e => ?_) (by omega), q2⟩
  · have := List.all_eq_true.mp q4 c hc
    simpa using this
  · have : x = Str.ofString "" := by
      obtain ⟨⟨l⟩⟩ := x
      dsimp only at e
      subst e
      decide
    rw [this] at q1
    exact absurd q1 (by decide)
theorem badgo_of {M : Model} {A : Around} {E : Value → Shared → Prop} {s : Shared} {base g h₂ : Heap} {outer : List Env} {L' a : Addr} {m' : Str → Option Value} {name : Str} {scope : Scope} {cd v1 v2 : Value} {cl : List (Str × Addr)}
    (B' : Below A base outer g) (F₂ : Fr g L' h₂ m') (hG : Kept [] s.heap g) (bad : BadOut base outer E s) (tk₂ : Nat) (hk : scope.kind = .function) :
    BadGo g L' m' (fun e s' => wpAny M (A.deeper (envX name scope L' a cd cl)) (leaving (envX name scope L' a cd cl) e) (fun _ s'' => E e s'') (fun e' s'' => E e' s'') s') [v1, v2] { s with heap := h₂, toks := tk₂ } :=
  ⟨⟨v1, v2, rfl⟩, F₂, fun h' tk' e hB => leave_badS (s' := { s with heap := h', toks := tk' }) B' hB F₂ (fun h'' R U =>
    bad h'' tk' e (raised_of (fun b o q => hG b o q (by simp)) R) ((Heap.UpToSlots.of_keeps fun b o q => hG b o q (by simp)).trans U)) hk⟩
noncomputable abbrev whScope : Scope := { kind := ScopeKind.function, names := [(Str.ofString "text", NameKind.local), (Str.ofString "line", NameKind.local), (Str.ofString "word", NameKind.local), (Str.ofString "sign", NameKind.local), (Str.ofString "len", NameKind.globalImplicit), (Str.ofString "BadText", NameKind.globalImplicit), (Str.ofString "int", NameKind.globalImplicit)], isGenerator := false, isCoroutine := false }

section
local macro_rules | `(tactic| walk_at "PAD") => `(tactic| skip)
theorem whole_spec {prog : Program} {w : World} {dp un : Nat} {gd : Option (List Code)} {cn : Str} {cs : Scope} {a : Addr} {ccd : Value} {cl : List (Str × Addr)} {outer : List Env} {A₀ : Around} {base h₀ : Heap} {L : Addr} {m : Str → Option Value} {s : Shared} {Q E : Value → Shared → Prop} {loose : List Str} {mean : ExcName → Option Value} {mg mb : Str → Option Value}
  {x : Str} {t : Tok} {v1 v2 : Value} {news : List (Addr × Obj)}
  (B : Below A₀ base outer h₀) (F : Fr h₀ L s.heap m) (X : (Mine.heapK w.params).In h₀) (N : News h₀ L s.heap news) (T : Top Mine.hd.view_433 loose mean mg mb h₀) (hk : cs.kind = .function)
  (hd : dp + 40 < recursionLimit) (hu : un + 200 < cLine) (hx : x.length ≤ 100000)
  (ret : ∀ h' tk' n t', wholeOf x = some n → Kept [] s.heap h' → Fr h₀ L h' m → News h₀ L h' news → Q (.int n t') { s with heap := h', toks := tk' })
  (bad : wholeOf x = none → BadOut base (envX cn cs L a ccd cl :: outer) E s) :
  wpAny (model prog w) (ktrTop dp un gd cn cs L a ccd cl outer) (call (.ref 152) [.str x t, v1, v2]) Q E s := by
  refine wpAny_call ?_
  k_dflt (refine' code_defM (binds := [(Str.ofString "text", .str x t), (Str.ofString "line", v1), (Str.ofString "word", v2)]) ?k1 ?k2 ?k3 ?k4 ?k5 ?kA ?kF ?kK ?k6 ?k7 ?k8 ?k9 ?kB ?_ ?c2 ?c3 ?c4 ?c5; (case kA => exact rfl); (case kF => exact rfl); (case kK => assumption); (case k1 => k_asm); (case k2 => k_asm); (case k3 => k_asm); (case k4 => exact News.nil); (case k5 => k_asm); (case k6 => k_is); (case k7 => k_is); (case k8 => k_room); (case k9 => exact BindsTo.of_eq rfl); (case c5 => decide); (case kB => exact locs rfl); (case c2 => exact rfl); (case c3 => exact rfl); (case c4 => exact rfl); k_whole)
  intro g L' h' tk hG hG' hL' FG' F' N' B' X' T'
  have kept : ∀ (h' : Heap) L' m', Fr g L' h' m' → Kept [] s.heap h' ∧ Fr h₀ L h' m ∧ News h₀ L h' news := fun h' L' m' F' =>
    have k : Kept [] s.heap h' := fun b o e n => F'.keep b o (hG b o e n)
    ⟨k, fr_kept F k.all, news_kept N k.all⟩
  clear F N B X T
  (try dsimp only)
  (try (refine fold_ ?_; k_fold))
  have done : ∀ (h₂ : Heap) (L₂ : Addr) (m₂ : Str → Option Value) (tk₂ : Nat), wholeOk x = true → Fr g L₂ h₂ m₂ → News g L₂ h₂ [] →
      wpAny (model prog w) ((ktrTop dp un gd cn cs L a ccd cl outer).deeper (envOf (Str.ofString "whole_of") whScope L' 152 (Value.ref 151))) (call (.type "int") [.str x t]) (fun v s' => LeaveK h₀ L m g (fun r s' => match r with | .ok (.ret v) => Q v s' | .ok _ => False | .error e => E e s') v s')
        (fun e s' => wpAny (model prog w) ((ktrTop dp un gd cn cs L a ccd cl outer).deeper (envOf (Str.ofString "whole_of") whScope L' 152 (Value.ref 151))) (leaving (envOf (Str.ofString "whole_of") whScope L' 152 (Value.ref 151)) e) (fun _ s'' => E e s'') (fun e' s'' => E e' s'') s')
        { s with heap := h₂, toks := tk₂ } := by
    intro h₂ L₂ m₂ tk₂ hok F₂ N₂
    obtain ⟨w1, w2, w3⟩ := whole_int hok
    refine KIN.call_text w2 (by omega) (leaveK_ F₂ N₂ fun _ _ => ?_)
    obtain ⟨k1, k2, k3⟩ := kept _ _ _ F₂
    exact ret _ _ _ _ w1 k1 k2 k3
  k_steps
  · exact badgo_of B' (by assumption) hG (bad (whole_none (.inl (by assumption)))) _ rfl
  · exact badgo_of B' (by assumption) hG (bad (whole_none (.inr (.inl (by omega))))) _ rfl
  · exact badgo_of B' (by assumption) hG (bad (whole_none (.inr (.inr (.inl ⟨by assumption, by assumption⟩))))) _ rfl
  · exact badgo_of B' (by assumption) hG (bad (whole_none (.inr (.inr (.inr ⟨_, by assumption, by assumption⟩))))) _ rfl
  · exact done _ _ _ _ (whole_ok (by assumption) (by assumption) (.inr (by assumption)) (by assumption)) (by assumption) (by assumption)
  · exact badgo_of B' (by assumption) hG (bad (whole_none (.inr (.inr (.inr ⟨_, by assumption, by assumption⟩))))) _ rfl
  · exact done _ _ _ _ (whole_ok (by assumption) (by assumption) (.inl (by assumption)) (by assumption)) (by assumption) (by assumption)
end


section
variable {prog : Program} {w : World} {A : Around} {E : Value → Shared → Prop} {s : Shared}
/-- what one step of a tuple's iterator does, whatever its end -/
theorem tuple_step {it l : Addr} {i : Nat} {items : Array Value} {Q : Value → Shared → Prop} (hit : s.heap.IsTupleIter it l i) (hl : s.heap.IsTuple l items)
    (go : ∀ x, items[i]? = some x → ∀ h', h'.IsTupleIter it l (i + 1) → Heap.SameBut it s.heap h' → Q x { s with heap := h' })
    (stop : items[i]? = none → A.handled = none ∧ ∀ h' e, Heap.ExtBut it s.heap h' → (∃ o, h'.get? e = some o ∧ o.cls = .type "StopIteration") → E (.ref e) { s with heap := h' }) :
    wpAny (model prog w) A (Builtin.SmallTypes.nextOf (.ref it)) Q E s := by
  have hty := hit.typeIs
  obtain ⟨oi, hoi, hci, hdi⟩ := hit
  obtain ⟨ol, hol, -, nl, hdl⟩ := hl
  unfold Builtin.SmallTypes.nextOf
  refine wpAny_bind (wpAny_callSpecial?_slot (name := Str.ofString "__next__") hty F.slot_tuple_iterator_next (wpAny_call_entry F.slot_tuple_iterator_next hty F.entry_tuple_iterator_next ?_ (F.args_tuple_iterator_next_1 _)))
  show wpAny _ _ (field (.ref it) 0 >>= _) _ _ s
  refine wpAny_bind (wpAny_field hoi hdi (x := .ref l) rfl ?_)
  rw [if_neg (show ¬ ((Value.ref l == Value.none) = true) from Bool.false_ne_true)]
  refine wpAny_bind (wpAny_field hoi hdi (x := .int i 0) rfl (wpAny_bind (wpAny_seqItems hol hdl ?_)))
  cases hx : items[i]? with
  | some x =>
    simp only [Int.toNat_natCast, hx]
    refine wpAny_bind (wpAny_setField hoi hdi (by simp) (wpAny_pure ⟨x, rfl, wpAny_pure (go x hx _ ⟨_, Heap.get?_update_self _ hoi (Obj.isFreed_of_fields (Obj.data_mapFields hdi _)), (Obj.cls_mapFields ..).trans hci, ?_⟩ (Heap.SameBut.update ..))⟩))
    rw [Obj.data_mapFields hdi]; simp [rawInt]
  | none =>
    obtain ⟨hh, hE⟩ := stop hx
    simp only [Int.toNat_natCast, hx]
    refine wpAny_bind (wpAny_rule (wpAny_bind (wpAny_setField hoi hdi (by simp) ?_)))
    show wpAny _ _ (newExc (.type "StopIteration") [] >>= _) _ _ _
    simp only [newExc, newTuple]
    refine wpAny_bind (wpAny_bind (wpAny_newObj_type (wpAny_bind (m := firstArgMember _ _) (wpAny_of_eq (a := Value.none) (by first | rfl | (simp only [firstArgMember]; rfl)) (wpAny_newObj_type ?_ (by size_fits)))) (by size_fits)))
    simp only [raiseNew]
    refine wpAny_bind (wpAny_handled ?_)
    first | rw [show A.in1.handled = none from hh] | rw [hh]
    exact wpAny_bind (wpAny_pure (wpAny_throw (hE _ _ (((Heap.SameBut.update ..).extBut.push _).push _) ⟨_, Heap.get?_push_size _ rfl, rfl⟩)))
end
theorem draws_tuple {prog : Program} {w : World} {A : Around} (hh : A.handled = none) (it l : Addr) (hne : l ≠ it) (items : Array Value) :
    Draws prog w A it [it, l] items.size (fun i v => items[i]? = some v) (fun i h => h.IsTupleIter it l i ∧ h.IsTuple l items) where
  live := fun _ _ st => let ⟨o, ho, _⟩ := st.1; ⟨o, ho⟩
  frame := fun _ _ _ st hk => ⟨let ⟨o, ho, r⟩ := st.1; ⟨o, hk it (by simp) o ho, r⟩, let ⟨o, ho, r⟩ := st.2; ⟨o, hk l (by simp) o ho, r⟩⟩
  item := fun i s Q E hi st hQ => tuple_step st.1 st.2 (fun x hx h' a b => hQ x h' s.toks hx ⟨a, st.2.extBut b.extBut hne⟩ b) fun hx => by
    rw [Array.getElem?_eq_none_iff] at hx; omega
  done := fun s Q E st hE => tuple_step st.1 st.2 (fun x hx => by rw [Array.getElem?_eq_none (Nat.le_refl _)] at hx; cases hx) fun _ => ⟨hh, fun h' e a b => hE h' e a b⟩

theorem made_enum_tuple (l : Addr) (items : Array Value) (n : Nat) (dct : Option Addr) (sl : Array (Option Value)) :
    Meets (Builtin.«enumerate.__new__» ⟨[.type "enumerate", .ref l], []⟩) (fun _ R s => s.heap.get? l = some { cls := .type "tuple", dict := dct, data := .seq items n, slots := sl } ∧
      R (.ok (.ret (.ref (s.heap.push { cls := .type "tuple_iterator", data := .fields #[.ref l, .int 0 0] }).objs.size)))
        { s with heap := (s.heap.push { cls := .type "tuple_iterator", data := .fields #[.ref l, .int 0 0] }).push { cls := .type "enumerate", data := .fields #[.none, .bool false, .ref s.heap.objs.size, rawInt 0, .none, .none] } }) :=
  .of_wp fun prog w A R s h => by
    obtain ⟨hp, g, d, tk, os⟩ := s
    obtain ⟨hl, h⟩ := h
    have hsub := sub_enumerate
    have hL : Heap.IsTuple (Shared.heap ⟨hp, g, d, tk, os⟩) l items := ⟨_, hl, rfl, n, rfl⟩
    wp_walk using PySem.AutoSeq1.wpAny_loadPart' hl
    refine wpAny_stack_any fun st => wpAny_pure ?_
    split
    · rename_i c _ _ _ _ _
      cases (c == Value.type "enumerate") <;>
      · wp_walk using PySem.AutoSeq1.wpAny_loadPart' hl, wpAny_pyIter_tuple hL
        exact ⟨_, rfl, h⟩
    · wp_walk using PySem.AutoSeq1.wpAny_loadPart' hl, wpAny_pyIter_tuple hL
      exact ⟨_, rfl, h⟩

section
variable {prog : Program} {w : World} {A : Around} {E : Value → Shared → Prop} {s : Shared} {env : Env} {h₀ : Heap} {body : List Stmt} {Q : Flow → Shared → Prop}
/-- enumerate over a tuple of the base -/
theorem enum_tuple {elts : List Expr} {kk : Nat} {pos : Pos} {l : Addr} {vs : List Value} {m : Str → Option Value} {news : List (Addr × Obj)} (hh : A.handled = none) (F : Fr h₀ env.locals s.heap m) (N : News h₀ env.locals s.heap news)
    (hl : h₀.IsTuple l vs.toArray) (J : Nat → (Str → Option Value) → List (Addr × Obj) → Prop) (h0 : J 0 m news)
    (step : ∀ i v T t m₁ news₁ h₁ tk₁ own, vs[i]? = some v → J i m₁ news₁ → OwnOff own (news₁.map (·.1)) → Fr h₀ env.locals h₁ m₁ → News h₀ env.locals h₁ (news₁ ++ own) → IsTup h₁ T #[.int (i : Int) t, v] →
      wpAny (model prog w) A (assign (.Tuple elts kk pos) env (.ref T)) (fun _ s₃ => wpAny (model prog w) A (execs body env) (TEnd h₀ env.locals own (J (i + 1)) { s with heap := h₁, toks := tk₁ } Q) E s₃) E { s with heap := h₁, toks := tk₁ })
    (done : ∀ h' tk m' news', Fr h₀ env.locals h' m' → News h₀ env.locals h' news' → J vs.length m' news' → Q .next { s with heap := h', toks := tk }) :
    wpAny (model prog w) A (call (.type "enumerate") [.ref l]) (fun xv s₁ => wpAny (model prog w) A (pyIter xv) (fun it s₂ => TurnsAt prog w A h₀ env (.Tuple elts kk pos) body Q E it s₂) E s₁) E s := by
  obtain ⟨⟨c, dct, dt, sl⟩, hol, hc, n, hdl⟩ := id hl
  dsimp only at hc hdl
  subst hc hdl
  have hls := F.keep _ _ hol
  have hlt : l < s.heap.objs.size := Heap.lt_size hls
  have hLs : env.locals < s.heap.objs.size := F.ns.lt
  have hlL : l ≠ env.locals := fun e => absurd (Nat.lt_of_lt_of_le (Heap.lt_size hol) F.above) (e ▸ Nat.lt_irrefl _)
  have hz : (s.heap.push { cls := .type "tuple_iterator", data := .fields #[.ref l, .int 0 0] }).objs.size = s.heap.objs.size + 1 := Heap.size_push ..
  refine callType_new PySem.F.called_enumerate (by decide) (PySem.F.typeCall_enumerate_1 _) (PySem.F.newCall_enumerate_1 _) (fun obj => PySem.F.args_object_init_2 obj _) PySem.F.entry_enumerate_new (made_enum_tuple l vs.toArray n dct sl) ⟨hls, ?_⟩
  show _ ∧ _
  rw [hz]
  have hk : ∀ b o, s.heap.get? b = some o → ((s.heap.push { cls := .type "tuple_iterator", data := .fields #[.ref l, .int 0 0] }).push { cls := .type "enumerate", data := .fields #[.none, .bool false, .ref s.heap.objs.size, rawInt 0, .none, .none] }).get? b = some o :=
    fun b o x => Heap.get?_push_of_some _ (Heap.get?_push_of_some _ x)
  have hE : IsEnum ((s.heap.push { cls := .type "tuple_iterator", data := .fields #[.ref l, .int 0 0] }).push
      { cls := .type "enumerate", data := .fields #[.none, .bool false, .ref s.heap.objs.size, rawInt 0, .none, .none] }) (s.heap.objs.size + 1) s.heap.objs.size 0 .none := by
    have := Heap.get?_push_size (s.heap.push { cls := .type "tuple_iterator", data := .fields #[.ref l, .int 0 0] })
      (o := { cls := .type "enumerate", data := .fields #[.none, .bool false, .ref s.heap.objs.size, rawInt 0, .none, .none] }) rfl
    rw [hz] at this; exact this
  have hI : ((s.heap.push { cls := .type "tuple_iterator", data := .fields #[.ref l, .int 0 0] }).push { cls := .type "enumerate", data := .fields #[.none, .bool false, .ref s.heap.objs.size, rawInt 0, .none, .none] }).IsTupleIter s.heap.objs.size l 0 :=
    ⟨_, Heap.get?_push_of_some _ (Heap.get?_push_size _ rfl), rfl, rfl⟩
  refine ⟨⟨_, hE, rfl⟩, wpAny_pyIter_enum hE ?_⟩
  refine my_turns (KTurns.ofWalksU (WalksT.enumerateD (draws_tuple (A := A.in1) hh s.heap.objs.size l (Nat.ne_of_lt hlt) vs.toArray) (s.heap.objs.size + 1) (Nat.succ_ne_self _) (by
      intro hm
      have hb' : s.heap.objs.size + 1 = s.heap.objs.size ∨ s.heap.objs.size + 1 = l := by simpa using hm
      rcases hb' with e | e
      · exact Nat.succ_ne_self _ e
      · exact ktu_ne 1 hlt e.symm) (by simp)).toU) ?_ ?_ ?_ ⟨⟨.none, hE⟩, hI, ⟨_, hk _ _ hls, rfl, n, rfl⟩⟩ (F.keeps hk) (N.grown hk) ?_ ?_ J h0 ?_ ?_ ?_
  · intro hI'
    have hb' : env.locals = s.heap.objs.size + 1 ∨ env.locals = s.heap.objs.size ∨ env.locals = l := by simpa using hI'
    rcases hb' with e | e | e
    · exact ktu_ne 1 hLs e
    · exact Nat.ne_of_lt hLs e
    · exact hlL e.symm
  · intro b hb
    have hb' : b = s.heap.objs.size + 1 ∨ b = s.heap.objs.size := by simpa using hb
    rcases hb' with rfl | rfl
    · exact ktu_new F (Nat.le_add_right _ _)
    · exact ktu_new F (Nat.le_refl _)
  · intro p hp hI'
    have hb' : p.1 = s.heap.objs.size + 1 ∨ p.1 = s.heap.objs.size := by simpa using hI'
    have hlp := Heap.lt_size (N p hp).1
    rcases hb' with e | e
    · exact ktu_ne 1 hlp e
    · exact Nat.ne_of_lt hlp e
  · intro b hb
    have hb' : b = s.heap.objs.size + 1 ∨ b = s.heap.objs.size ∨ b = l := by simpa using hb
    rcases hb' with e | e | e
    · exact .inl (by simp [e])
    · exact .inl (by simp [e])
    · exact .inr (.inl ⟨_, by rw [e]; exact hol⟩)
  · rintro i h ⟨⟨old, he⟩, ⟨oi, hoi, hic, _⟩, _⟩ b hb
    have hb' : b = s.heap.objs.size + 1 ∨ b = s.heap.objs.size := by simpa using hb
    rcases hb' with e | e
    · exact ⟨_, by rw [e]; exact he⟩
    · exact ⟨oi, by rw [e]; exact hoi⟩
  · intro i m' news' hJ b hb hw hz o ho
    have hb' : b = s.heap.objs.size + 1 ∨ b = s.heap.objs.size ∨ b = l := by simpa using hb
    rcases hb' with e | e | e
    · exact absurd (by simp [e]) hw
    · exact absurd (by simp [e]) hw
    · rw [e, hol] at hz; cases hz
  · rintro i v m₁ news₁ h₁ tk₁ own hi ⟨T, vals, rfl, ⟨t, x, hx, rfl⟩, hT⟩ hJ hoff F₁ N₁
    have hP' : vs[i]? = some x := by simpa using hx
    exact step i x T t m₁ news₁ h₁ tk₁ own hP' hJ hoff F₁ N₁ hT
  · intro h' tk m' news' F' N' hJ
    exact done h' tk m' news' F' N' (by simpa using hJ)
end

theorem plain_strOk : ∀ p ∈ plainTab, PyData.strOk p.1 = true := by decide +kernel
noncomputable def plainIdx (x : Str) (k : Int) : Int := if plainTab.findIdx (· == (x, k)) < 45 then (plainTab.findIdx (· == (x, k)) : Int) else -1
theorem plainIdx_some {x : Str} {k : Int} {i : Nat} (h : plainTab[i]? = some (x, k)) (hno : ∀ j, j < i → plainTab[j]? ≠ some (x, k)) : plainIdx x k = i := by
  obtain ⟨hi, e⟩ := List.getElem?_eq_some_iff.mp h
  have hf : plainTab.findIdx (· == (x, k)) = i := by
    rcases Nat.lt_trichotomy (plainTab.findIdx (· == (x, k))) i with q | q | q
    · exfalso
      have hl : plainTab.findIdx (· == (x, k)) < plainTab.length := Nat.lt_trans q hi
      have := List.findIdx_getElem (p := (· == (x, k))) (w := hl)
      exact hno _ q (by rw [List.getElem?_eq_getElem hl, eq_of_beq this])
    · exact q
    · exfalso
      have := List.not_of_lt_findIdx (p := (· == (x, k))) q
      rw [e] at this
      simp at this
  unfold plainIdx
  rw [hf, if_pos (show i < 45 from hi)]
theorem plainIdx_none {x : Str} {k : Int} (hno : ∀ j, j < 45 → plainTab[j]? ≠ some (x, k)) : plainIdx x k = -1 := by
  unfold plainIdx
  split
  · rename_i q
    exfalso
    have hl : plainTab.findIdx (· == (x, k)) < plainTab.length := q
    have := List.findIdx_getElem (p := (· == (x, k))) (w := hl)
    exact hno _ q (by rw [List.getElem?_eq_getElem hl, eq_of_beq this])
  · rfl
theorem plain_all (w : World) : ∀ (i : Nat) (v : Value), ((List.range 45).map fun k => Value.ref (40 + k))[i]? = some v → ∃ y n t u, plainTab[i]? = some (y, n) ∧ v = .ref (40 + i) ∧ (Mine.heapK w.params).lookup (40 + i) = some ⟨.type "tuple", none, .seq #[.str y t, .int n u] 0, #[]⟩ := by
  intro i v h
  have hi : i < 45 := by
    have := (List.getElem?_eq_some_iff.mp h).1
    simpa using this
  rw [List.getElem?_map, List.getElem?_range hi] at h
  have hk : i < plainTab.length := hi
  obtain ⟨t, u, ht⟩ := plain_row w (x := plainTab[i].1) (n := plainTab[i].2) (List.getElem?_eq_getElem hk)
  exact ⟨_, _, t, u, List.getElem?_eq_getElem hk, (Option.some.inj h).symm, ht⟩
theorem tend_ret {h₀ : Heap} {L : Addr} {own : List (Addr × Obj)} {Jn : (Str → Option Value) → List (Addr × Obj) → Prop} {s s₂ : Shared} {Q : Flow → Shared → Prop} {v : Value} (h : Q (.ret v) s₂) : TEnd h₀ L own Jn s Q (.ret v) s₂ := h
theorem news_at {h₀ h : Heap} {L : Addr} {news : List (Addr × Obj)} (N : News h₀ L h news) {q : Addr × Obj} (hq : q ∈ news) : h.get? q.1 = some q.2 ∧ q.1 ≠ L ∧ h₀.get? q.1 = none := N q hq
theorem eq_pair {prog : Program} {w : World} {A : Around} {E : Value → Shared → Prop} {s : Shared} {a b : Addr} {x y : Str} {k n : Int} {t u t' u' : Tok} {Q : Value → Shared → Prop}
    (ha : IsTup s.heap a #[.str x t, .int k u]) (hb : IsTup s.heap b #[.str y t', .int n u']) (hx : PyData.strOk x = true) (hy : PyData.strOk y = true) (hu : A.units + 64 < cLine)
    (h : Q (.bool (decide ((x, k) = (y, n)))) s) : wpAny (model prog w) A (compareOp .Eq (.ref a) (.ref b)) Q E s := by
  obtain ⟨oa, h1, h2, ka, h3⟩ := ha
  obtain ⟨ob, g1, g2, kb, g3⟩ := hb
  have ra : Reads s.heap (.ref a) (.tuple [.str x, .int k]) _ := reads_tuple_at h1 h2 h3 (ReadsAll.cons (Reads.str x t) (ReadsAll.cons (Reads.int k u) ReadsAll.nil))
  have rb : Reads s.heap (.ref b) (.tuple [.str y, .int n]) _ := reads_tuple_at g1 g2 g3 (ReadsAll.cons (Reads.str y t') (ReadsAll.cons (Reads.int n u') ReadsAll.nil))
  have e : PyData.eqv (.tuple [.str x, .int k]) (.tuple [.str y, .int n]) = decide ((x, k) = (y, n)) := by
    rw [Bool.eq_iff_iff]
    simp [PyData.eqv, PyData.eqvAll]
  refine eq_dataH ra rb ?_ ?_ hu (by rw [e]; exact h)
  · simp [SeqAt.shaped, PyData.canLay0, PyData.canLayAll0, PyData.depth, PyData.depthAll, hx]
  · simp [SeqAt.shaped, PyData.canLay0, PyData.canLayAll0, PyData.depth, PyData.depthAll, hy]

section
local macro_rules | `(tactic| walk_at "PAD") => `(tactic| skip)
local macro_rules | `(tactic| walk_at "compareOp Eq ref ref") => `(tactic| (refine Stop.out ?_))
theorem plain_spec {prog : Program} {w : World} {dp un : Nat} {gd : Option (List Code)} {cn : Str} {cs : Scope} {a : Addr} {ccd : Value} {cl : List (Str × Addr)} {outer : List Env} {A₀ : Around} {base h₀ : Heap} {L : Addr} {m : Str → Option Value} {s : Shared} {Q E : Value → Shared → Prop} {loose : List Str} {mean : ExcName → Option Value} {mg mb : Str → Option Value}
  {x : Str} {t u : Tok} {k : Int} {news : List (Addr × Obj)}
  (B : Below A₀ base outer h₀) (F : Fr h₀ L s.heap m) (X : (Mine.heapK w.params).In h₀) (N : News h₀ L s.heap news) (T : Top Mine.hd.view_433 loose mean mg mb h₀) (hk : cs.kind = .function)
  (hd : dp + 40 < recursionLimit) (hu : un + 200 < cLine) (hx : PyData.strOk x = true)
  (ret : ∀ h' tk' t', Kept [] s.heap h' → Fr h₀ L h' m → News h₀ L h' news → Q (.int (plainIdx x k) t') { s with heap := h', toks := tk' }) :
  wpAny (model prog w) (ktrTop dp un gd cn cs L a ccd cl outer) (call (.ref 92) [.str x t, .int k u]) Q E s := by
  refine wpAny_call ?_
  k_dflt (refine' code_defM (binds := [(Str.ofString "name", .str x t), (Str.ofString "many", .int k u)]) ?k1 ?k2 ?k3 ?k4 ?k5 ?kA ?kF ?kK ?k6 ?k7 ?k8 ?k9 ?kB ?_ ?c2 ?c3 ?c4 ?c5; (case kA => exact rfl); (case kF => exact rfl); (case kK => assumption); (case k1 => k_asm); (case k2 => k_asm); (case k3 => k_asm); (case k4 => exact News.nil); (case k5 => k_asm); (case k6 => k_is); (case k7 => k_is); (case k8 => k_room); (case k9 => exact BindsTo.of_eq rfl); (case c5 => decide); (case kB => exact locs rfl); (case c2 => exact rfl); (case c3 => exact rfl); (case c4 => exact rfl); k_whole)
  intro g L' h' tk hG hG' hL' FG' F' N' B' X' T'
  have kept : ∀ (h' : Heap) L' m', Fr g L' h' m' → Kept [] s.heap h' ∧ Fr h₀ L h' m ∧ News h₀ L h' news := fun h' L' m' F' =>
    have k : Kept [] s.heap h' := fun b o e n => F'.keep b o (hG b o e n)
    ⟨k, fr_kept F k.all, news_kept N k.all⟩
  clear F N B X T
  (try dsimp only)
  k_steps
  refine Stop.of ?_
  have hl : g.IsTuple 85 ((List.range 45).map fun k => Value.ref (40 + k)).toArray := ⟨_, X' _ _ (plain_refs w), rfl, 0, rfl⟩
  refine enum_tuple rfl (by assumption) (by assumption) hl (fun i m₁ news₁ => news₁ = [] ∧ (∀ j, j < i → plainTab[j]? ≠ some (x, k)) ∧ ∀ z, [Str.ofString "index", Str.ofString "row"].contains z = false → m₁ z = List.lookup z [(Str.ofString "name", Value.str x t), (Str.ofString "many", Value.int k u)].reverse)
    ⟨rfl, fun j hj => by omega, fun _ _ => rfl⟩ ?_ ?_
  · intro i v T t m₁ news₁ h₁ tk₁ own hv hJ hoff F₂ N₂ hT
    (try (refine fold_ ?_; k_fold))
    obtain ⟨rfl, hno, hm⟩ := hJ
    obtain ⟨y, n, yt, nt, hyn, rfl, hrow⟩ := plain_all w i v hv
    rw [map_form _ hm] at F₂
    simp only [List.nil_append] at N₂
    have hyo := plain_strOk _ (List.mem_of_getElem? hyn)
    dsimp only at hyo
    refine unpackN_ F₂ N₂ hT rfl rfl rfl fun h₂ F₃ N₃ => ?_
    k_steps
    refine Stop.of (eq_pair (tupK (X'.keeps (Fr.keep (by assumption))) hrow) ⟨_, News.get (by assumption) (.head _), rfl, _, rfl⟩ hyo hx (by (try dsimp only); k_units) ?_)
    k_steps
    · refine tend_ret ?_
      dsimp only
      refine leaveK_ (by assumption) (by assumption) ?_
      intro _ _
      obtain ⟨k1, k2, k3⟩ := kept _ _ _ (by assumption)
      have e9 : (y, n) = (x, k) := by assumption
      rw [plainIdx_some (e9 ▸ hyn) hno] at ret
      exact ret _ _ _ k1 k2 k3
    · refine ⟨_, _, _, [], rfl, by assumption, fun q hq => news_at (by assumption) (.tail _ hq), by simp [OwnOff], rfl, ?_, ?_⟩
      · intro j hj
        rcases Nat.lt_succ_iff_lt_or_eq.mp hj with hj | rfl
        · exact hno j hj
        · rw [hyn]
          intro e9
          have e8 : ¬ (y, n) = (x, k) := by assumption
          exact e8 (Option.some.inj e9)
      · intro z hz
        have z1 : z ≠ Str.ofString "index" := fun e => by rw [e] at hz; exact absurd hz (by decide)
        have z2 : z ≠ Str.ofString "row" := fun e => by rw [e] at hz; exact absurd hz (by decide)
        show (if z = _ then _ else if z = _ then _ else if _ = true then _ else _) = _
        rw [if_neg z2, if_neg z1, if_neg (by rw [hz]; decide)]
  · intro h₂ tk₂ m₂ news₂ F₂ N₂ hJ
    (try (refine fold_ ?_; k_fold))
    obtain ⟨rfl, hno, hm⟩ := hJ
    rw [map_form _ hm] at F₂
    k_steps
    refine Stop.of (leaveK_ F₂ N₂ ?_)
    intro _ _
    obtain ⟨k1, k2, k3⟩ := kept _ _ _ F₂
    rw [plainIdx_none (fun j hj => hno j (by simpa using hj))] at ret
    exact ret _ _ _ k1 k2 k3
end


section
variable {M : Model} {A : Around} {E : Value → Shared → Prop} {base g : Heap} {outer : List Env} {L a : Addr} {m : Str → Option Value} {name : Str} {scope : Scope} {cd : Value} {cl : List (Str × Addr)}
/-- a BadText that came out of a call leaves the caller's frame too -/
theorem badout_on {s : Shared} {h₂ : Heap} {tk₂ : Nat} (K : Below A base outer g) (F : Fr g L h₂ m) (hG : Kept [] s.heap g) (bad : BadOut base outer E s) :
    BadOut base (envX name scope L a cd cl :: outer) (fun e s' => wpAny M (A.deeper (envX name scope L a cd cl)) (leaving (envX name scope L a cd cl) e) (fun _ s'' => E e s'') (fun e' s'' => E e' s'') s') { s with heap := h₂, toks := tk₂ } := by
  intro h' tk' e R U
  obtain ⟨B, a0, hB, hBG, _, hfl⟩ := R
  refine wpAny_leaves_onW (A := A.deeper (envX name scope L a cd cl)) (s := { s with heap := h', toks := tk' }) (Around.frames_deeper K.stack) rfl hfl fun h'' x1 x2 => ?_
  refine bad h'' tk' e ⟨B, a0, hB, fun b o q nm => hBG b o (F.keep b o (hG b o q (by simp))) (fun hm => ?_), (fun q hq => by cases hq), x1⟩ (((Heap.UpToSlots.of_keeps fun b o q => F.keep b o (hG b o q (by simp))).trans U).trans x2)
  rcases mem_frames hm with z | z
  · have := hG b o q (by simp)
    rw [z, kts_self F] at this
    cases this
  · exact nm z
end
noncomputable def readOp (ps : List Str) : Option Int := match ps with
  | [] => none
  | x :: r => match sortOf x with
    | none => none
    | some y => if y = sNONE then (match r with | [] => some (-1) | _ => none)
      else if y = sPLAIN then (match r with | [n, a] => (wholeOf a).bind fun k => if plainIdx n k < 0 then none else some (plainIdx n k) | _ => none)
      else (match r with | [a] => wholeOf a | _ => none)

theorem list_two {α : Type} {l : List α} (h : l.length = 2) : ∃ p q, l = [p, q] := by
  cases l with
  | nil => cases h
  | cons a r => cases r with
    | nil => cases h
    | cons b r => cases r with
      | nil => exact ⟨a, b, rfl⟩
      | cons c r => cases h
theorem readOp_not2 {x y : Str} {pr : List Str} (h : sortOf x = some y) (h1 : ¬ y = sNONE) (h2 : y = sPLAIN) (hl : ¬ pr.length = 2) : readOp (x :: pr) = none := by
  unfold readOp
  simp only [h, if_neg h1, if_pos h2]
  cases pr with
  | nil => rfl
  | cons a r => cases r with
    | nil => rfl
    | cons b r => cases r with
      | nil => exact absurd rfl hl
      | cons c r => rfl
theorem readOp_not1 {x y : Str} {pr : List Str} (h : sortOf x = some y) (h1 : ¬ y = sNONE) (h2 : ¬ y = sPLAIN) (hl : ¬ pr.length = 1) : readOp (x :: pr) = none := by
  unfold readOp
  simp only [h, if_neg h1, if_neg h2]
  cases pr with
  | nil => rfl
  | cons a r => cases r with
    | nil => exact absurd rfl hl
    | cons b r => rfl
theorem rows_notin {prog : Program} {w : World} {A : Around} {E : Value → Shared → Prop} {s : Shared} {h₀ : Heap} {L : Addr} {m : Str → Option Value} {x : Str} {t : Tok} {Q : Value → Shared → Prop} (F : Fr h₀ L s.heap m) (X₀ : (Mine.heapK w.params).In h₀)
    (h : Q (.bool (sortOf x).isNone) { s with toks := s.toks + 1 }) : wpAny (model prog w) A (compareOp .NotIn (.str x t) (.ref 15)) Q E s := by
  refine wpAny_notIn_of (strKind_is prog w x t) (by decide) (mapOf_K (prog := prog) (X₀.keeps F.keep) (by rfl) (by k_keys)) ?_
  cases hs : sortOf x with
  | none =>
    rw [hs] at h
    rw [find_K (by rfl) (row_miss w hs)]
    exact h
  | some y =>
    rw [hs] at h
    obtain ⟨a, tk, rest, e, _⟩ := row_hit w hs
    rw [find_K (by rfl) e]
    exact h
theorem rows_notin_none {prog : Program} {w : World} {A : Around} {E : Value → Shared → Prop} {s : Shared} {h₀ : Heap} {L : Addr} {m : Str → Option Value} {x : Str} {t : Tok} {Q : Value → Shared → Prop} (F : Fr h₀ L s.heap m) (X₀ : (Mine.heapK w.params).In h₀)
    (hs : sortOf x = none) (h : Q (.bool true) { s with toks := s.toks + 1 }) : wpAny (model prog w) A (compareOp .NotIn (.str x t) (.ref 15)) Q E s := rows_notin F X₀ (by rw [hs]; exact h)
theorem rows_notin_some {prog : Program} {w : World} {A : Around} {E : Value → Shared → Prop} {s : Shared} {h₀ : Heap} {L : Addr} {m : Str → Option Value} {x y : Str} {t : Tok} {Q : Value → Shared → Prop} (F : Fr h₀ L s.heap m) (X₀ : (Mine.heapK w.params).In h₀)
    (hs : sortOf x = some y) (h : Q (.bool false) { s with toks := s.toks + 1 }) : wpAny (model prog w) A (compareOp .NotIn (.str x t) (.ref 15)) Q E s := rows_notin F X₀ (by rw [hs]; exact h)

noncomputable def manyOf (y : Str) : Int := if y = sNONE then 1 else if y = sPLAIN then 3 else 2
theorem many_val (y : Str) : (PySem.Spec.lookup (PyData.str y) [(PyData.str (Str.ofString "none"), PyData.int 1), (PyData.str (Str.ofString "plain"), PyData.int 3)]).getD (PyData.int 2) = PyData.int (manyOf y) := by
  unfold manyOf
  simp only [PySem.Spec.lookup]
  have s1 : ∀ a b : Str, PySem.Spec.same (PyData.str a) (PyData.str b) = (a == b) := fun _ _ => rfl
  rw [s1, s1]
  by_cases h1 : y = sNONE
  · subst h1; rfl
  · have e1 : (Str.ofString "none" == y) = false := by rw [beq_eq_false_iff_ne]; exact fun e => h1 e.symm
    rw [e1, if_neg h1]
    by_cases h2 : y = sPLAIN
    · subst h2; rfl
    · have e2 : (Str.ofString "plain" == y) = false := by rw [beq_eq_false_iff_ne]; exact fun e => h2 e.symm
      rw [e2, if_neg h2]
      rfl

section
local macro_rules | `(tactic| walk_at "compareOp NotIn str ref") => `(tactic| (refine Stop.out ?_))
local macro_rules | `(tactic| walk_at "call builtin:len") => `(tactic| (refine Stop.out ?_))
local macro_rules | `(tactic| walk_at "eval Dict") => `(tactic| (refine Stop.out ?_))
theorem readop_spec {prog : Program} {w : World} {dp un : Nat} {gd : Option (List Code)} {cn : Str} {cs : Scope} {a : Addr} {ccd : Value} {cl : List (Str × Addr)} {outer : List Env} {A₀ : Around} {base h₀ : Heap} {L : Addr} {m : Str → Option Value} {s : Shared} {Q E : Value → Shared → Prop} {loose : List Str} {mean : ExcName → Option Value} {mg mb : Str → Option Value}
  {l : Addr} {vs : List Value} {ps : List Str} {v1 : Value} {news : List (Addr × Obj)}
  (B : Below A₀ base outer h₀) (F : Fr h₀ L s.heap m) (X : (Mine.heapK w.params).In h₀) (N : News h₀ L s.heap news) (T : Top Mine.hd.view_433 loose mean mg mb h₀) (hk : cs.kind = .function)
  (hd : dp + 60 < recursionLimit) (hu : un + 300 < cLine) (hl : s.heap.IsList l vs.toArray) (hs : StrsAre vs ps) (h1 : 1 ≤ ps.length) (hx : ∀ p ∈ ps, p.length ≤ 100000 ∧ PyData.strOk p = true) (hz : ps.length ≤ 100000)
  (ret : ∀ h' tk' n t', readOp ps = some n → Kept [] s.heap h' → Fr h₀ L h' m → News h₀ L h' news → Q (.int n t') { s with heap := h', toks := tk' })
  (bad : readOp ps = none → BadOut base (envX cn cs L a ccd cl :: outer) E s) :
  wpAny (model prog w) (ktrTop dp un gd cn cs L a ccd cl outer) (call (.ref 159) [.ref l, v1]) Q E s := by
  refine wpAny_call ?_
  k_dflt (refine' code_defM (binds := [(Str.ofString "parts", .ref l), (Str.ofString "line", v1)]) ?k1 ?k2 ?k3 ?k4 ?k5 ?kA ?kF ?kK ?k6 ?k7 ?k8 ?k9 ?kB ?_ ?c2 ?c3 ?c4 ?c5; (case kA => exact rfl); (case kF => exact rfl); (case kK => assumption); (case k1 => k_asm); (case k2 => k_asm); (case k3 => k_asm); (case k4 => exact News.nil); (case k5 => k_asm); (case k6 => k_is); (case k7 => k_is); (case k8 => k_room); (case k9 => exact BindsTo.of_eq rfl); (case c5 => decide); (case kB => exact locs rfl); (case c2 => exact rfl); (case c3 => exact rfl); (case c4 => exact rfl); k_whole)
  intro g L' h' tk hG hG' hL' FG' F' N' B' X' T'
  have kept : ∀ (h' : Heap) L' m', Fr g L' h' m' → Kept [] s.heap h' ∧ Fr h₀ L h' m ∧ News h₀ L h' news := fun h' L' m' F' =>
    have k : Kept [] s.heap h' := fun b o e n => F'.keep b o (hG b o e n)
    ⟨k, fr_kept F k.all, news_kept N k.all⟩
  have hlg : g.IsList l vs.toArray := hl.at fun o e => hG _ _ e (by simp)
  clear F N B X T
  (try dsimp only)
  (try (refine fold_ ?_; k_fold))
  cases hs with
  | nil => exact absurd h1 (by decide)
  | cons x t hs =>
  rename_i vr pr
  cases hsx : sortOf x with
  | none =>
    have hnone : readOp (x :: pr) = none := by unfold readOp; simp only [hsx]
    k_steps
    refine Stop.of ?_
    k_dflt (refine rows_notin_none (by k_asm) (by k_asm) (by assumption) ?_)
    k_steps
    exact badgo_of B' (by assumption) hG (bad hnone) _ rfl
  | some y =>
    k_steps
    refine Stop.of ?_
    k_dflt (refine rows_notin_some (by k_asm) (by k_asm) (by assumption) ?_)
    k_steps
    refine Stop.of ?_
    k_dflt (refine kdn_eval (knd := PySem.strKind _ _) (by k_asm) (by first | k_asm | exact News.nil) (by exact Top.nolimit (by k_asm)) (by rfl) (by rfl) (by exact List.cons_ne_nil _ _) (by exact Nat.le_of_ble_eq_true rfl) ?_)
    intro d' h' o' F' N' l1 lo' hd'
    (try k_lt l1)
    k_steps
    refine Stop.of ?_
    k_dflt (refine sort_of_spec (by k_asm) (by k_asm) (by k_asm) (by k_asm) (by k_asm) (by first | exact rfl | assumption) (by (try dsimp only); omega) (by assumption) ?_)
    intro h' tk' t' hK' F' N'
    (try dsimp only)
    (try k_fold)
    k_steps
    refine Stop.of (call_len_list (hlg.at fun o e => Fr.keep (by assumption) _ _ e) (by simp only [List.size_toArray]; have := hs.length; simp only [List.length_cons] at hz ⊢; omega) ?_)
    rename PyProof.V.Flat _ _ => hv
    have hvi := PyProof.V.Flat.int_inv (show PyProof.V.Flat _ (PyData.int (manyOf y)) from (many_val y) ▸ hv)
    clear hv
    rw [show (List.toArray (Value.str x t :: vr)).size = pr.length + 1 by simp [hs.length]]
    by_cases hy1 : y = sNONE
    · rw [show manyOf y = 1 by rw [hy1]; decide] at hvi
      obtain ⟨vt, rfl⟩ := hvi
      cases hs with
      | nil =>
        have hsome : readOp [x] = some (-1) := by unfold readOp; simp only [hsx, if_pos hy1]
        k_steps
        dsimp only
        refine Stop.of (leaveK_ (by assumption) (by assumption) ?_)
        intro _ _
        obtain ⟨k1, k2, k3⟩ := kept _ _ _ (by assumption)
        exact ret _ _ _ _ hsome k1 k2 k3
      | cons p u hs' =>
        rename_i vr' pr'
        have hnone : readOp (x :: p :: pr') = none := by unfold readOp; simp only [hsx, if_pos hy1]
        rw [List.length_cons]
        k_steps
        · exact badgo_of B' (by assumption) hG (bad hnone) _ rfl
        all_goals (exfalso; omega)
    by_cases hy2 : y = sPLAIN
    · rw [show manyOf y = 3 by rw [hy2]; decide] at hvi
      obtain ⟨vt, rfl⟩ := hvi
      by_cases hl2 : pr.length = 2
      · obtain ⟨p, q, rfl⟩ := list_two hl2
        cases hs with
        | cons p u hs =>
        cases hs with
        | cons q u' hs =>
        cases hs
        obtain ⟨hp1, hp2⟩ := hx p (.tail _ (.head _))
        obtain ⟨hq1, hq2⟩ := hx q (.tail _ (.tail _ (.head _)))
        have hval : readOp [x, p, q] = (wholeOf q).bind fun k => if plainIdx p k < 0 then none else some (plainIdx p k) := by unfold readOp; simp only [hsx, if_neg hy1, if_pos hy2]
        k_steps
        (all_goals try (exfalso; omega))
        refine Stop.of ?_
        refine' whole_spec ?B ?F ?X ?N ?T ?hk ?hd ?hu ?hx ?ret ?bad; (case B => k_asm); (case F => k_asm); (case X => k_asm); (case N => k_asm); (case T => k_asm); (case hk => first | exact rfl | assumption); (case hd => ((try dsimp only); omega)); (case hu => ((try dsimp only); omega)); (case hx => assumption)
        case bad => exact fun hn => badout_on B' (by assumption) hG (bad (by rw [hval, hn]; rfl))
        intro h₅ tk₅ n₅ t₅ hw hK₅ F₅ N₅
        rw [hw] at hval
        (try dsimp only)
        k_steps
        refine Stop.of ?_
        k_dflt (refine plain_spec (by k_asm) (by k_asm) (by k_asm) (by k_asm) (by k_asm) (by first | exact rfl | assumption) (by (try dsimp only); omega) (by (try dsimp only); omega) (by assumption) ?_)
        intro h' tk' t' hK' F' N'
        (try dsimp only)
        (try k_fold)
        k_steps
        · refine badgo_of B' (by assumption) hG (bad ?_) _ rfl
          rw [hval]
          show (if _ then _ else _) = none
          rw [if_pos (by assumption)]
        · dsimp only
          refine Stop.of (leaveK_ (by assumption) (by assumption) ?_)
          intro _ _
          obtain ⟨k1, k2, k3⟩ := kept _ _ _ (by assumption)
          refine ret _ _ _ _ ?_ k1 k2 k3
          rw [hval]
          show (if _ then _ else _) = _
          rw [if_neg (by assumption)]
      · have hnone : readOp (x :: pr) = none := readOp_not2 hsx hy1 hy2 hl2
        k_steps
        · exact badgo_of B' (by assumption) hG (bad hnone) _ rfl
        all_goals (exfalso; omega)
    · rw [show manyOf y = 2 by unfold manyOf; rw [if_neg hy1, if_neg hy2]] at hvi
      obtain ⟨vt, rfl⟩ := hvi
      by_cases hl2 : pr.length = 1
      · obtain ⟨p, rfl⟩ := List.length_eq_one_iff.mp hl2
        cases hs with
        | cons p u hs =>
        cases hs
        obtain ⟨hp1, hp2⟩ := hx p (.tail _ (.head _))
        have hval : readOp [x, p] = wholeOf p := by unfold readOp; simp only [hsx, if_neg hy1, if_neg hy2]
        k_steps
        (all_goals try (exfalso; omega))
        refine Stop.of ?_
        refine' whole_spec ?Bz ?Fz ?Xz ?Nz ?Tz ?hkz ?hdz ?huz ?hxz ?retz ?badz; (case Bz => k_asm); (case Fz => k_asm); (case Xz => k_asm); (case Nz => k_asm); (case Tz => k_asm); (case hkz => first | exact rfl | assumption); (case hdz => ((try dsimp only); omega)); (case huz => ((try dsimp only); omega)); (case hxz => assumption)
        case badz => exact fun hn => badout_on B' (by assumption) hG (bad (by rw [hval, hn]))
        intro h₅ tk₅ n₅ t₅ hw hK₅ F₅ N₅
        dsimp only
        refine leaveK_ F₅ N₅ ?_
        intro _ _
        obtain ⟨k1, k2, k3⟩ := kept _ _ _ F₅
        exact ret _ _ _ _ (by rw [hval, hw]) k1 k2 k3
      · have hnone : readOp (x :: pr) = none := readOp_not1 hsx hy1 hy2 hl2
        k_steps
        · exact badgo_of B' (by assumption) hG (bad hnone) _ rfl
        all_goals (exfalso; omega)
end


theorem sorted_ext : ∀ {l r : List Int}, l.Pairwise (· < ·) → r.Pairwise (· < ·) → (∀ n, n ∈ l ↔ n ∈ r) → l = r
  | [], [], _, _, _ => rfl
  | [], b :: r, _, _, h => absurd ((h b).mpr (.head _)) (by simp)
  | a :: l, [], _, _, h => absurd ((h a).mp (.head _)) (by simp)
  | a :: l, b :: r, hl, hr, h => by
    obtain ⟨l1, l2⟩ := List.pairwise_cons.mp hl
    obtain ⟨r1, r2⟩ := List.pairwise_cons.mp hr
    have hab : a = b := by
      rcases List.mem_cons.mp ((h a).mp (.head _)) with e | e
      · exact e
      · rcases List.mem_cons.mp ((h b).mpr (.head _)) with e' | e'
        · exact e'.symm
        · have := l1 b e'
          have := r1 a e
          omega
    subst hab
    rw [sorted_ext l2 r2 fun n => ?_]
    constructor
    · intro hn
      rcases List.mem_cons.mp ((h n).mp (.tail _ hn)) with e | e
      · have := l1 n hn; omega
      · exact e
    · intro hn
      rcases List.mem_cons.mp ((h n).mpr (.tail _ hn)) with e | e
      · have := r1 n hn; omega
      · exact e
noncomputable def starsOf (rs : List (Bool × Str × Int)) : List Int := rs.zipIdx.filterMap fun p => if p.1.1 then some ((p.2 : Nat) : Int) else none
theorem starsOf_length (rs : List (Bool × Str × Int)) : (starsOf rs).length ≤ rs.length := by
  unfold starsOf
  exact Nat.le_trans (List.length_filterMap_le _ _) (by rw [List.length_zipIdx]; exact Nat.le_refl _)
theorem starsOf_snoc (rs : List (Bool × Str × Int)) (r : Bool × Str × Int) : starsOf (rs ++ [r]) = starsOf rs ++ (if r.1 then [((rs.length : Nat) : Int)] else []) := by
  unfold starsOf
  rw [List.zipIdx_append, List.filterMap_append]
  congr 1
  simp only [List.zipIdx_singleton, List.filterMap_cons, List.filterMap_nil, Nat.zero_add]
  cases r.1 <;> simp
theorem mem_starsOf {rs : List (Bool × Str × Int)} {n : Int} : n ∈ starsOf rs ↔ ∃ (j : Nat) (x : Str) (k : Int), rs[j]? = some (true, x, k) ∧ n = (j : Int) := by
  unfold starsOf
  rw [List.mem_filterMap]
  constructor
  · rintro ⟨⟨⟨b, x, k⟩, j⟩, h1, h2⟩
    rw [List.mem_zipIdx_iff_getElem?] at h1
    dsimp only at h1 h2
    cases b with
    | true => exact ⟨j, x, k, h1, by simpa using h2.symm⟩
    | false => simp at h2
  · rintro ⟨j, x, k, h1, rfl⟩
    exact ⟨((true, x, k), j), List.mem_zipIdx_iff_getElem?.mpr h1, by simp⟩
theorem starsOf_sorted (rs : List (Bool × Str × Int)) : (starsOf rs).Pairwise (· < ·) := by
  unfold starsOf
  rw [List.pairwise_filterMap]
  have h : (rs.zipIdx).Pairwise (fun p q => p.2 < q.2) := by
    rw [List.pairwise_iff_getElem]
    intro i j hi hj hij
    simp
    exact hij
  refine h.imp fun {p q} hpq b hb b' hb' => ?_
  split at hb
  · split at hb'
    · cases hb; cases hb'; omega
    · cases hb'
  · cases hb

theorem stars_iff {rs : List (Bool × Str × Int)} {ns : List Int} (hM : IsMet (rs.map (·.2)) ns) (h0 : ∀ i ∈ rs.map (·.2), isJump i.1 = true → 0 ≤ i.2) :
    starsOf rs = ns.filter (fun k => decide (k < (rs.length : Int))) ↔ ∀ (j : Nat) (b : Bool) (x : Str) (k : Int), rs[j]? = some (b, x, k) → b = starred (rs.map (·.2)) j := by
  have hst : ∀ j : Nat, starred (rs.map (·.2)) j = true ↔ (j : Int) ∈ ns := by
    intro j
    rw [← met_starred hM j, List.any_eq_true]
    exact ⟨fun ⟨x, h1, h2⟩ => (eq_of_beq h2) ▸ h1, fun h => ⟨_, h, beq_self_eq_true _⟩⟩
  have hf : ∀ n, n ∈ ns.filter (fun k => decide (k < (rs.length : Int))) ↔ n ∈ ns ∧ n < (rs.length : Int) := by
    intro n; simp
  constructor
  · intro e j b x k hj
    have hjl : j < rs.length := (List.getElem?_eq_some_iff.mp hj).1
    rw [Bool.eq_iff_iff, hst]
    constructor
    · rintro rfl
      have : (j : Int) ∈ starsOf rs := mem_starsOf.mpr ⟨j, x, k, hj, rfl⟩
      rw [e, hf] at this
      exact this.1
    · intro hn
      have : (j : Int) ∈ starsOf rs := by rw [e, hf]; exact ⟨hn, by omega⟩
      obtain ⟨j', x', k', h1, h2⟩ := mem_starsOf.mp this
      have : j = j' := by omega
      subst this
      rw [hj] at h1
      cases h1
      rfl
  · intro h
    refine sorted_ext (starsOf_sorted rs) (hM.1.filter _) fun n => ?_
    rw [hf, mem_starsOf]
    constructor
    · rintro ⟨j, x, k, hj, rfl⟩
      have hjl : j < rs.length := (List.getElem?_eq_some_iff.mp hj).1
      exact ⟨(hst j).mp (h j true x k hj).symm, by omega⟩
    · rintro ⟨hn, hl⟩
      have hnn : 0 ≤ n := by
        obtain ⟨x, h1, h2⟩ := (hM.2 n).mp hn
        exact h0 _ h1 h2
      obtain ⟨j, rfl⟩ := Int.eq_ofNat_of_zero_le hnn
      have hjl : j < rs.length := by omega
      obtain ⟨⟨b, x, k⟩, hj⟩ : ∃ r, rs[j]? = some r := ⟨_, List.getElem?_eq_getElem hjl⟩
      have hb := h j b x k hj
      rw [(hst j).mpr hn] at hb
      subst hb
      exact ⟨j, x, k, hj, rfl⟩

theorem strOk_of {x y : Str} (h : ∀ c ∈ y.cps.toList, c ∈ x.cps.toList) (hx : PyData.strOk x = true) : PyData.strOk y = true := by
  unfold PyData.strOk at hx ⊢
  rw [← Array.all_toList] at hx ⊢
  exact List.all_eq_true.mpr fun c hc => List.all_eq_true.mp hx c (h c hc)
theorem sub_chars (x : Str) (i j : Nat) : ∀ c ∈ (PySem.Builtin.Str.strSub x i j).cps.toList, c ∈ x.cps.toList := by
  intro c hc
  unfold PySem.Builtin.Str.strSub at hc
  rw [Array.toList_extract, List.extract_eq_drop_take] at hc
  exact List.mem_of_mem_drop (List.mem_of_mem_take hc)
theorem parts_chars (x : Str) (w : Nat) : ∀ (cuts : List Nat) (a : Nat), ∀ p ∈ StrLaws.partsFrom x w a cuts, ∀ c ∈ p.cps.toList, c ∈ x.cps.toList
  | [], a, p, hp => by rw [List.mem_singleton.mp hp]; exact sub_chars x _ _
  | c :: r, a, p, hp => by
    rcases List.mem_cons.mp hp with rfl | hp'
    · exact sub_chars x _ _
    · exact parts_chars x w r _ p hp'
theorem split_chars {x y p : Str} (h : p ∈ Txt.split x y) : ∀ c ∈ p.cps.toList, c ∈ x.cps.toList := by
  unfold Txt.split at h
  split at h
  · rw [List.mem_singleton.mp h]; exact fun _ h => h
  · split at h
    · rw [List.mem_singleton.mp h]; exact fun _ h => h
    · rw [StrLaws.partsBetween_eq] at h
      exact parts_chars x _ _ _ p h
theorem slice_chars (x : Str) (a b : Option Int) : ∀ c ∈ (Txt.slice x a b).cps.toList, c ∈ x.cps.toList := by
  unfold Txt.slice
  split
  · exact fun _ h => h
  · intro c hc
    simp only [List.mem_filterMap] at hc
    obtain ⟨i, _, hi⟩ := hc
    exact Array.mem_toList_iff.mpr (Array.mem_of_getElem? hi)
theorem strOk_part {x y p : Str} (h : p ∈ Txt.split x y) (hx : PyData.strOk x = true) : PyData.strOk p = true := strOk_of (split_chars h) hx
theorem strOk_slice {x : Str} {a b : Option Int} (hx : PyData.strOk x = true) : PyData.strOk (Txt.slice x a b) = true := strOk_of (slice_chars x a b) hx
theorem row_pos {row : Str} (h : ([Str.ofString "*", Str.ofString " "].any fun x => x == Txt.slice row none (some 1)) = true) : 1 ≤ row.length := by
  have h1 : (Txt.slice row none (some 1)).length ≤ row.length := Txt.slice_le _ _ _
  have h2 : 1 ≤ (Txt.slice row none (some 1)).length := by
    obtain ⟨a, ha, hb⟩ := List.any_eq_true.mp h
    rw [← eq_of_beq hb]
    simp only [List.mem_cons, List.not_mem_nil, or_false] at ha
    rcases ha with rfl | rfl <;> decide
  omega


section
variable {prog : Program} {w : World} {A₀ A : Around} {s : Shared} {base h₀ : Heap} {outer : List Env} {L : Addr} {m mg mb : Str → Option Value} {env : Env} {K : Frag} {p : Program} {loose : List Str} {loose : List Str} {mean : ExcName → Option Value}
  {R : Result → Shared → Prop} {name qual : Str} {params : Arguments} {body : List Stmt} {scope : Scope} {dV kV doc pm cdv ct oc : Value} {an od : Option Addr} {osl : Array (Option Value)} {f : Addr} {args : Args} {binds : List (Str × Value)}
/-- a call of a def with cells, nothing hidden from it -/
theorem code_cells (B : Below A₀ base outer h₀) (F : Fr h₀ L s.heap m) (X₀ : K.In h₀) (T : Top p loose mean mg mb h₀) (hA : A.frames = some (env :: outer)) (hf : env.frame = some L) (hke : env.scope.kind = .function)
    (ho : K.lookup f = some ⟨oc, od, .func (fnOf name qual params body scope dV kV doc pm an cdv ct), osl⟩) (hcd : codeIn K cdv qual = true) (hroom : A.depth < recursionLimit)
    (hbind : BindsTo s (fnOf name qual params body scope dV kV doc pm an cdv ct) args binds) (hkind : (binds.all fun y => scope.names.lookup y.1 == some .local || scope.names.lookup y.1 == some .cell) = true)
    (hnd : ((cellsFrom 0 scope.names []).map (·.1)).Nodup)
    (h : ∀ g L' h₁ tk cells, Kept [] s.heap g → (∀ b o, g.get? b = some o → s.heap.get? b = some o) → Fr h₀ L g m → Fr g L' h₁ (bindL (envOfC qual scope L' f cdv).kindOf binds fun _ => none) → News g L' h₁ cells →
      CellsAre (bindC (envOfC qual scope L' f cdv).kindOf binds fun _ => none) (cellsFrom (L' + 1) scope.names []) cells → Below A base (env :: outer) g → K.In g → Top p loose mean mg mb g →
      wpAny (model prog w) (A.deeper (envOfC qual scope L' f cdv)) (execs body (envOfC qual scope L' f cdv))
        (fun fl s' => LeaveK h₀ L m g R (match fl with | .ret v => v | _ => .none) s')
        (fun e s' => wpAny (model prog w) (A.deeper (envOfC qual scope L' f cdv)) (leaving (envOfC qual scope L' f cdv) e) (fun _ s'' => R (.error e) s'') (fun e' s'' => R (.error e') s'') s')
        { s with heap := h₁, toks := tk })
    (hco : scope.isCoroutine = false) (hgen : scope.isGenerator = false) (hk : scope.kind = .function) : codeAny (model prog w) A (.call (.ref f) args) R s := by
  obtain ⟨FG, BG, st, lv⟩ := groundX (R := R) B F News.nil hA hf hke
  refine codeAny_call_function hroom ((X₀.keeps F.keep) _ _ ho) rfl hco hgen rfl (codeRec_of (X₀.keeps F.keep) hcd) (hbind _ _ _ _ ?_)
  refine wpAny_newFunctionEnv_cells hk (kindsX hkind _) fun env' he s' x => ?_
  subst he
  refine ⟨(T.nolimit.keeps F.keep).keeps x.toInCall.keep, codeAny_func ?_⟩
  obtain ⟨h₁, tk, rfl, _⟩ := x.done
  have hk₁ := x.toInCall.keep
  obtain ⟨cells, NC, Y⟩ := Cl.news (h₀ := s.heap) (Nat.le_refl _) fun n c hm => ⟨x.cell n c (lookup_of_mem_nodup (cellsFrom_names scope.names 0 (s.heap.objs.size + 1) [] [] rfl ▸ hnd) hm), x.above n c hm⟩
  refine wpAny_mono (h _ s.heap.objs.size h₁ tk cells (fun b o e n => hideAll_get _ e n) (fun b o e => of_hideAll _ e) FG ⟨x.toInCall.ns, fun b o e => hk₁ b o (of_hideAll _ e), Nat.le_of_eq (hideAll_size _ _)⟩ (fun p hp => ?_) Y BG (X₀.keeps st) (T.keeps st)) (fun fl s' hl => lv _ _ hl) fun _ _ y => y
  refine ⟨(NC p hp).1, (NC p hp).2.1, ?_⟩
  show (hideAll s.heap (([] : List (Addr × Obj)).map (·.1))).get? p.1 = none
  cases q : (hideAll s.heap (([] : List (Addr × Obj)).map (·.1))).get? p.1 with
  | none => rfl
  | some o => have := of_hideAll _ q; rw [(NC p hp).2.2] at this; cases this
end

theorem split_ne (x y : Str) : Txt.split x y ≠ [] := by
  unfold Txt.split
  split
  · simp
  · split
    · simp
    · rw [StrLaws.partsBetween_eq]
      intro e
      rename_i h1 h2
      cases hq : (PySem.Builtin.Str.occurrences x y 0 x.length (x.length + 1)) with
      | nil => rw [hq] at h2; exact h2 rfl
      | cons c r => rw [hq] at e; cases e
section
variable {prog : Program} {w : World} {A : Around} {E : Value → Shared → Prop} {s : Shared} {h₀ : Heap} {L : Addr} {m : Str → Option Value} {news : List (Addr × Obj)} {x y : Str} {t u : Tok} {Q : Value → Shared → Prop}
theorem split_made (hF : Fr h₀ L s.heap m) (hN : News h₀ L s.heap news) (hy : (y.length == 0) = false)
    (h : ∀ D vs h' k, StrsAre vs (Txt.split x y) → Fr h₀ L h' m → News h₀ L h' ((D, listOf vs.toArray 0) :: news) → (∀ p ∈ news, p.1 < D) → Q (.ref D) { s with heap := h', toks := k }) (hsz : x.length + 2 ≤ sizeLine) :
    wpAny (model prog w) A (call (.builtin "str.split") [.str x t, .str y u]) Q E s :=
  KSpl.split1 hF hN hy (fun D l h' k e a F N l1 => h D (strValues l) h' k (e ▸ a) F N l1) hsz
theorem pick_init {v : Value} (vi : List Value) : (slicePick (vi ++ [v]).toArray none (some (-1)) none).toList = vi := by
  have e : sliceBounds none (some (-1)) none (vi ++ [v]).toArray.size = (((0 : Nat) : Int), ((vi.length : Nat) : Int), 1) := by
    rw [List.size_toArray, List.length_append, List.length_singleton]
    unfold sliceBounds
    simp
    omega
  rw [kmk_pick_nat _ e]
  simp
end

theorem strs_get {vs : List Value} {ys : List Str} (h : StrsAre vs ys) : ∀ {i : Nat} {v : Value}, vs[i]? = some v → ∃ y t, v = .str y t ∧ ys[i]? = some y := by
  induction h with
  | nil => intro i v e; simp at e
  | cons y t _ ih =>
    intro i v e
    cases i with
    | zero => simp at e; exact ⟨y, t, e.symm, rfl⟩
    | succ i => simpa using ih (by simpa using e)
def FoundAre (tups : List (Addr × Obj)) (fl : List Value) (rs : List (Bool × Str × Int)) : Prop :=
  fl.length = rs.length ∧ ∀ (j : Nat) (b : Bool) (x : Str) (k : Int), rs[j]? = some (b, x, k) → ∃ a t u, fl[j]? = some (Value.ref a) ∧ (a, tupObj x k t u) ∈ tups
noncomputable def readRow (i : Nat) (row : Str) : Option (Bool × Str × Int) :=
  if ([Str.ofString "*", Str.ofString " "].any fun x => x == Txt.slice row none (some 1)) = true then
    match Txt.split (Txt.slice row (some 1) none) (Str.ofString " ") with
    | p0 :: p1 :: r => if wholeOf p0 = some (i : Int) then (readOp (p1 :: r)).map fun k => (Txt.item row 0 == Str.ofString "*", p1, k) else none
    | _ => none
  else none
def RowsAre (yi : List Str) (rs : List (Bool × Str × Int)) : Prop := ∀ (j : Nat) (r : Bool × Str × Int), rs[j]? = some r → ∃ row, yi[j]? = some row ∧ readRow j row = some r
theorem rows_snoc {yi : List Str} {rs : List (Bool × Str × Int)} {r : Bool × Str × Int} {row : Str} (h : RowsAre yi rs) (hr : yi[rs.length]? = some row) (e : readRow rs.length row = some r) : RowsAre yi (rs ++ [r]) := by
  intro j q hq
  rcases Nat.lt_trichotomy j rs.length with hj | rfl | hj
  · rw [List.getElem?_append_left hj] at hq
    exact h j q hq
  · simp at hq
    exact ⟨row, hr, by rw [← hq]; exact e⟩
  · rw [List.getElem?_eq_none (by simp; omega)] at hq
    cases hq
theorem found_snoc {tups : List (Addr × Obj)} {fl : List Value} {rs : List (Bool × Str × Int)} {b : Bool} {x : Str} {k : Int} {t u : Tok} {D : Addr} (h : FoundAre tups fl rs) : FoundAre ((D, tupObj x k t u) :: tups) (fl ++ [.ref D]) (rs ++ [(b, x, k)]) := by
  obtain ⟨h1, h2⟩ := h
  refine ⟨by simp [h1], fun j b' x' k' hq => ?_⟩
  rcases Nat.lt_trichotomy j rs.length with hj | rfl | hj
  · rw [List.getElem?_append_left hj] at hq
    obtain ⟨a, t', u', e1, e2⟩ := h2 j b' x' k' hq
    exact ⟨a, t', u', by rw [List.getElem?_append_left (by omega)]; exact e1, .tail _ e2⟩
  · simp at hq
    obtain ⟨rfl, rfl, rfl⟩ := hq
    exact ⟨D, t, u, by rw [← h1]; simp, .head _⟩
  · rw [List.getElem?_eq_none (by simp; omega)] at hq
    cases hq
theorem ints_snoc {vs : List Value} {ns : List Int} (h : IntsAre vs ns) (k : Int) (t : Tok) : IntsAre (vs ++ [.int k t]) (ns ++ [k]) := by
  induction h with
  | nil => exact .cons _ _ .nil
  | cons y u _ ih => exact .cons y u ih
theorem allLt_mem {D : Addr} {l : List (Addr × Obj)} (h : AllLt D l) : ∀ p ∈ l, @LT.lt Nat _ p.1 D := by
  induction l with
  | nil => intro p hp; cases hp
  | cons q r ih =>
    obtain ⟨h1, h2⟩ := h
    intro p hp
    rcases List.mem_cons.mp hp with rfl | hp
    · exact h1
    · exact ih h2 p hp
def Parses (t : Str) (rs : List (Bool × Str × Int)) : Prop :=
  ∃ yi, Txt.split t (Str.ofString "\n") = yi ++ [Str.ofString ""] ∧ rs.length = yi.length ∧ RowsAre yi rs ∧ ∀ (j : Nat) (b : Bool) (x : Str) (k : Int), rs[j]? = some (b, x, k) → b = starred (rs.map (·.2)) j
theorem no_parse {x : Str} {yi : List Str} {y row : Str} {i : Nat} (hsp : Txt.split x (Str.ofString "\n") = yi ++ [y]) (hr : yi[i]? = some row) (hn : readRow i row = none) : ∀ rs, ¬ Parses x rs := by
  rintro rs ⟨yi', h1, h2, h3, _⟩
  rw [hsp] at h1
  obtain ⟨rfl, _⟩ := List.append_inj' h1 rfl
  have hi : i < rs.length := by rw [h2]; exact (List.getElem?_eq_some_iff.mp hr).1
  obtain ⟨row', e1, e2⟩ := h3 i _ (List.getElem?_eq_getElem hi)
  rw [hr] at e1
  cases e1
  rw [hn] at e2
  cases e2
theorem pick_tail {v : Value} (vs : List Value) : (slicePick (v :: vs).toArray (some 1) none none).toList = vs := by
  have e : sliceBounds (some 1) none none (v :: vs).toArray.size = (((1 : Nat) : Int), ((vs.length + 1 : Nat) : Int), 1) := by
    rw [List.size_toArray, List.length_cons]
    unfold sliceBounds
    simp
    omega
  rw [kmk_pick_nat _ e]
  simp
theorem len_two {prog : Program} {w : World} {A : Around} {E : Value → Shared → Prop} {s : Shared} {l : Addr} {a b : Value} {tl : List Value} {Q : Value → Shared → Prop} (hl : s.heap.IsList l (a :: b :: tl).toArray) (hz : tl.length ≤ 100000)
    (h : Q (.int ((tl.length : Int) + 2) (s.toks + 1)) { s with toks := s.toks + 1 + 1 }) : wpAny (model prog w) A (call (.builtin "len") [.ref l]) Q E s := by
  have e : ((a :: b :: tl).toArray.size : Int) = (tl.length : Int) + 2 := by simp; omega
  refine call_len_list hl (by rw [e]; omega) ?_
  rw [e]
  exact h
theorem readOp_sort {x : Str} {r : List Str} {k : Int} (h : readOp (x :: r) = some k) : (∃ y, sortOf x = some y) ∧ (isJump x = true → 0 ≤ k) := by
  unfold readOp at h
  cases hs : sortOf x with
  | none => simp only [hs] at h; cases h
  | some y =>
    refine ⟨⟨y, rfl⟩, fun hj => ?_⟩
    unfold isJump at hj
    rw [hs] at hj
    have hy : y = sPLACE := by simpa using hj
    simp only [hs] at h
    rw [if_neg (by rw [hy]; decide), if_neg (by rw [hy]; decide)] at h
    cases r with
    | nil => exact absurd h (by simp)
    | cons a r =>
      cases r with
      | nil =>
        change wholeOf a = some k at h
        unfold wholeOf at h
        split at h
        · have := Option.some.inj h; omega
        · cases h
      | cons b r => exact absurd h (by simp)
theorem readRow_op {i : Nat} {row x : Str} {b : Bool} {k : Int} (h : readRow i row = some (b, x, k)) : ∃ r, readOp (x :: r) = some k := by
  unfold readRow at h
  split at h
  · split at h
    · split at h
      · rename_i p0 p1 r _ _
        cases ho : readOp (p1 :: r) with
        | none => rw [ho] at h; cases h
        | some k' =>
          rw [ho] at h
          cases h
          exact ⟨r, ho⟩
      · cases h
    · cases h
  · cases h
theorem rows_mem {yi : List Str} {rs : List (Bool × Str × Int)} (h : RowsAre yi rs) : ∀ i ∈ rs.map (·.2), (∃ y, sortOf i.1 = some y) ∧ (isJump i.1 = true → 0 ≤ i.2) := by
  intro i hi
  obtain ⟨⟨b, x, k⟩, hr, rfl⟩ := List.mem_map.mp hi
  obtain ⟨j, hj⟩ := List.getElem?_of_mem hr
  obtain ⟨row, _, e⟩ := h j _ hj
  obtain ⟨r, ho⟩ := readRow_op e
  exact readOp_sort ho
theorem rows_unique {yi : List Str} {rs rs' : List (Bool × Str × Int)} (h : RowsAre yi rs) (h' : RowsAre yi rs') (e : rs.length = rs'.length) : rs = rs' := by
  refine List.ext_getElem? fun j => ?_
  cases q : rs[j]? with
  | none =>
    have := List.getElem?_eq_none_iff.mp q
    exact (List.getElem?_eq_none_iff.mpr (by omega)).symm
  | some r =>
    have hj := (List.getElem?_eq_some_iff.mp q).1
    cases q' : rs'[j]? with
    | none => have := List.getElem?_eq_none_iff.mp q'; omega
    | some r' =>
      obtain ⟨row, e1, e2⟩ := h j r q
      obtain ⟨row', e3, e4⟩ := h' j r' q'
      rw [e1] at e3
      cases e3
      rw [e2] at e4
      exact e4
theorem code_at {h₀ h : Heap} {L Df : Addr} {news tups : List (Addr × Obj)} {fl : List Value} {fn : Nat} {rs : List (Bool × Str × Int)} (N : News h₀ L h news) (hl : (Df, listOf fl.toArray fn) ∈ news) (ht : ∀ p ∈ tups, p ∈ news) (hfl : FoundAre tups fl rs) : CodeAt h Df (rs.map (·.2)) := by
  refine ⟨fl, ⟨_, (N _ hl).1, rfl, fn, rfl⟩, by simp [hfl.1], fun j x' k' hj => ?_⟩
  rw [List.getElem?_map] at hj
  cases hq : rs[j]? with
  | none => rw [hq] at hj; cases hj
  | some r =>
    obtain ⟨b', x9, k9⟩ := r
    rw [hq] at hj
    cases hj
    obtain ⟨a9, t9, u9, e1, e2⟩ := hfl.2 j b' x' k' hq
    exact ⟨a9, t9, u9, e1, ⟨_, (N _ (ht _ e2)).1, rfl, _, rfl⟩⟩
noncomputable abbrev rcStored : List Str := [Str.ofString "line", Str.ofString "row", Str.ofString "parts", Str.ofString "rows", Str.ofString "text"]

section
variable {prog : Program} {w : World} {A : Around} {E : Value → Shared → Prop} {s : Shared}
noncomputable abbrev plScope : Scope := { kind := ScopeKind.function, names := [(Str.ofString ".0", NameKind.local), (Str.ofString "place", NameKind.local), (Str.ofString "len", NameKind.globalImplicit), (Str.ofString "found", NameKind.free)], isGenerator := false, isCoroutine := false }
noncomputable abbrev plScope' : Scope := { kind := ScopeKind.function, names := [(Str.ofString ".0", NameKind.local), (Str.ofString "place", NameKind.local), (Str.ofString "len", NameKind.globalImplicit), (Str.ofString "found", NameKind.cell)], isGenerator := false, isCoroutine := false }
theorem place_test {env : Env} {C cc l : Addr} {m₂ mg mb : Str → Option Value} {fl : List Value} {k : Int} {t : Tok} {p1 p2 p3 p4 p5 : Pos}
    (hg : env.globals = mainGlobals) (hb : env.builtins = builtinsNs) (hrel : relabel plScope env = plScope')
    (hNs : s.heap.Ns C m₂) (hx : m₂ (Str.ofString "place") = some (.int k t)) (hoc : s.heap.IsCell cc (some (.ref l))) (hl : s.heap.IsList l fl.toArray) (hz : fl.length ≤ 100000)
    (G : s.heap.Ns mainGlobals mg) (hmiss : mg (Str.ofString "len") = none) (Bn : s.heap.Ns builtinsNs mb) (hlen : mb (Str.ofString "len") = some (.builtin "len")) :
    wpAny (model prog w) A (forIn [Expr.Compare (.Name (Str.ofString "place") p1) [CmpOp.Lt] [.Call (.Name (Str.ofString "len") p2) [.Name (Str.ofString "found") p3] [] p4] p5] true fun c r => if r = true then do let ok ← PySem.isTrue c (compEnvC plScope [(Str.ofString "found", cc)] C env) (eval c (compEnvC plScope [(Str.ofString "found", cc)] C env)); pure (ForInStep.yield ok) else pure (ForInStep.yield r))
      (fun ok s₃ => ok = decide (k < (fl.length : Int)) ∧ Keeps s s₃) E s := by
  have e : compEnvC plScope [(Str.ofString "found", cc)] C env = { scope := plScope', locals := C, globals := mainGlobals, cells := [(Str.ofString "found", cc)], qual := env.qual, func := none, code := env.code, frame := env.frame, builtins := builtinsNs } := by
    unfold compEnvC
    rw [hrel, hg, hb]
  rw [e, List.forIn_cons]
  refine wpAny_bind ?_
  rw [if_pos rfl]
  refine wpAny_bind (wpAny_isTrue_Compare1 (wpAny_Name (wpAny_loadName_local rfl rfl hNs hx ?_)))
  refine wpAny_Call_ofName (Name_function_global rfl rfl (loadGlobal_builtin G hmiss Bn hlen ?_) (by decide))
  refine callWith_builtin1 (wpAny_Name (wpAny_loadName_cell rfl rfl rfl hoc ?_))
  have hsz : ((List.toArray fl).size : Int) = (fl.length : Int) := by rw [List.size_toArray]
  refine call_len_list hl (by rw [hsz]; omega) ?_
  refine PyProof.Rows.lt_int ?_
  refine wpAny_of_eq (a := decide (k < (List.toArray fl).size)) (by rfl) ?_
  refine wpAny_pure ?_
  dsimp only
  rw [List.forIn_nil]
  exact wpAny_pure ⟨by rw [List.size_toArray], _, _, rfl, fun _ _ e => e⟩
end

theorem star_gate {b : Bool} {M : Model} {A : Around} {E : Value → Shared → Prop} {s : Shared} {env : Env} {Q : Flow → Shared → Prop} {p1 p2 p3 p4 : Pos} {args : List Expr}
    (h : Stop (if b = true then wpAny M A (execs [Stmt.Expr (Expr.Call (Expr.Attribute (Expr.Name (Str.ofString "stars") p1) (Str.ofString "append") p2) args [] p3) p4] env) Q E s else wpAny M A (execs [] env) Q E s)) :
    if b = true then wpAny M A (execs [Stmt.Expr (Expr.Call (Expr.Attribute (Expr.Name (Str.ofString "stars") p1) (Str.ofString "append") p2) args [] p3) p4] env) Q E s else wpAny M A (execs [] env) Q E s := h
/-- both ways of the star's branch end alike -/
theorem star_join {b : Bool} {prog : Program} {w : World} {A : Around} {E : Value → Shared → Prop} {s : Shared} {env : Env} {st : List Stmt} {Q : Flow → Shared → Prop} {h₀ : Heap} {L Ds : Addr} {m : Str → Option Value} {news : List (Addr × Obj)} {gf : Obj → List (Addr × Obj)} {sl : List Value} {sn : Nat} {v : Value}
    (F : Fr h₀ L s.heap m) (N : News h₀ L s.heap news) (U : UpdF Ds (W.listOf sl.toArray sn) news gf)
    (app : ∀ Qz : Flow → Shared → Prop, (∀ h' tk', Fr h₀ L h' m → News h₀ L h' (gf (W.listOf (sl ++ [v]).toArray (sn + 1))) → Qz .next { s with heap := h', toks := tk' }) → wpAny (model prog w) A (execs st env) Qz E s)
    (go : ∀ h' tk' sl' sn', ((b = true ∧ sl' = sl ++ [v]) ∨ (b = false ∧ sl' = sl)) → Fr h₀ L h' m → News h₀ L h' (gf (W.listOf sl'.toArray sn')) → Q .next { s with heap := h', toks := tk' }) :
    if b = true then wpAny (model prog w) A (execs st env) Q E s else wpAny (model prog w) A (execs [] env) Q E s := by
  cases b
  · rw [if_neg Bool.false_ne_true]
    refine wpAny_execs_nil (go s.heap s.toks sl sn (.inr ⟨rfl, rfl⟩) F ?_)
    obtain ⟨pre, post, a, b, _, _⟩ := U.split
    rw [b, ← a]; exact N
  · rw [if_pos rfl]
    exact app Q fun h' tk' F' N' => go h' tk' _ _ (.inl ⟨rfl, rfl⟩) F' N'
section
local macro_rules | `(tactic| walk_at "ite") => `(tactic| (refine star_gate ?_))
local macro_rules | `(tactic| walk_at "subscriptTail") => `(tactic| ((with_reducible show wpAny _ _ (subscriptTail _ _ (Value.ref _) (Value.int (-1) _)) _ _ _); refine Stop.out ?_))
local macro_rules | `(tactic| walk_at "subscriptTail Name Slice ref ref") => `(tactic| (refine Stop.out ?_))
noncomputable abbrev rcScope : Scope := { kind := ScopeKind.function, names := [(Str.ofString "text", NameKind.local), (Str.ofString "rows", NameKind.local), (Str.ofString "found", NameKind.cell), (Str.ofString "stars", NameKind.local), (Str.ofString "line", NameKind.local), (Str.ofString "row", NameKind.local), (Str.ofString "parts", NameKind.local), (Str.ofString "BadText", NameKind.globalImplicit), (Str.ofString "len", NameKind.globalImplicit), (Str.ofString "enumerate", NameKind.globalImplicit), (Str.ofString "whole_of", NameKind.globalImplicit), (Str.ofString "read_operand", NameKind.globalImplicit), (Str.ofString "met_places", NameKind.globalImplicit)], isGenerator := false, isCoroutine := false }
local macro_rules | `(tactic| walk_at "call builtin:len") => `(tactic| (k_here; (with_reducible show wpAny _ _ (call (Value.builtin "len") [Value.ref _]) _ _ _); k_dflt (refine len_two (by exact News.isList (by k_asm) (by k_mem)) (by assumption) ?_)))
local macro_rules | `(tactic| walk_at "eval ListComp") => `(tactic| (refine Stop.out ?_))
theorem end_news {g h : Heap} {L Ds Df D2 A4 Dt : Addr} {oS oV oc oT : Obj} {z1 z2 z3 : Addr × Obj} {fl : List Value} {v : Value} {n : Nat} {tups own rest : List (Addr × Obj)} (e : rest = tups ++ own)
    (N : News g L h ((Dt, oT) :: z1 :: z2 :: z3 :: (Ds, oS) :: (Df, W.listOf (fl.toArray.push v) n) :: (D2, oV) :: (A4, oc) :: rest)) :
    News g L h ([(Ds, oS), (Df, W.listOf (fl ++ [v]).toArray n), (D2, oV), (A4, oc)] ++ ((Dt, oT) :: tups) ++ own) := by
  have e1 : fl.toArray.push v = (fl ++ [v]).toArray := by simp
  rw [e1] at N
  intro q hq
  refine N q ?_
  simp only [e, List.append_assoc, List.mem_append, List.mem_cons, List.not_mem_nil, or_false, List.cons_append, List.nil_append] at hq ⊢
  rcases hq with hq | hq | hq | hq | hq | hq | hq
  all_goals (simp [hq])
theorem end_off {Ds Df D2 A4 Dt : Addr} {a1 a2 a3 a4 b1 b2 b3 b4 oT : Obj} {tups own rest : List (Addr × Obj)} (e : rest = tups ++ own) (hlt : AllLt Dt rest)
    (hoff : OwnOff own (([(Ds, a1), (Df, a2), (D2, a3), (A4, a4)] ++ tups).map (·.1))) : OwnOff own (([(Ds, b1), (Df, b2), (D2, b3), (A4, b4)] ++ ((Dt, oT) :: tups)).map (·.1)) := by
  intro q hq b hb
  rw [e] at hlt
  simp only [List.map_append, List.map_cons, List.map_nil, List.mem_append, List.mem_cons, List.not_mem_nil, or_false] at hb
  have hof := hoff q hq b
  simp only [List.map_append, List.map_cons, List.map_nil, List.mem_append, List.mem_cons, List.not_mem_nil, or_false] at hof
  rcases hb with hb | hb | hb
  · exact hof (.inl hb)
  · rw [hb]; exact Nat.ne_of_lt (allLt_mem hlt q (List.mem_append_right _ hq))
  · exact hof (.inr hb)
theorem end_tup {Ds Df D2 A4 Dt : Addr} {oT : Obj} {tups : List (Addr × Obj)} (g1 : @LT.lt Nat _ Ds Dt) (g2 : @LT.lt Nat _ Df Dt) (g3 : @LT.lt Nat _ D2 Dt) (g4 : @LT.lt Nat _ A4 Dt) (hto : OwnOff tups [Ds, Df, D2, A4]) : OwnOff ((Dt, oT) :: tups) [Ds, Df, D2, A4] := by
  intro q hq b hb
  rcases List.mem_cons.mp hq with rfl | hq
  · simp only [List.mem_cons, List.not_mem_nil, or_false] at hb
    rcases hb with rfl | rfl | rfl | rfl
    · exact Nat.ne_of_gt g1
    · exact Nat.ne_of_gt g2
    · exact Nat.ne_of_gt g3
    · exact Nat.ne_of_gt g4
  · exact hto q hq b hb
theorem m_end {z : Str} {a b c d e : Option Value} (hz : rcStored.contains z = false) : (if z = Str.ofString "parts" then a else if z = Str.ofString "row" then b else if z = Str.ofString "line" then c else if rcStored.contains z = true then d else e) = e := by
  have z1 : z ≠ Str.ofString "parts" := fun e => by rw [e] at hz; exact absurd hz (by decide)
  have z2 : z ≠ Str.ofString "row" := fun e => by rw [e] at hz; exact absurd hz (by decide)
  have z3 : z ≠ Str.ofString "line" := fun e => by rw [e] at hz; exact absurd hz (by decide)
  rw [if_neg z1, if_neg z2, if_neg z3, if_neg (by rw [hz]; decide)]
/-- what holds between two lines of read_code -/
inductive ReadJ (Ds Df D2 A4 : Addr) (vi : List Value) (oc : Obj) (yi : List Str) (i : Nat) (m₁ : Str → Option Value) (news₁ : List (Addr × Obj)) : Prop
  | mk (rs : List (Bool × Str × Int)) (fl sl : List Value) (fn sn : Nat) (tups : List (Addr × Obj)) (e : news₁ = [(Ds, W.listOf sl.toArray sn), (Df, W.listOf fl.toArray fn), (D2, W.listOf vi.toArray 0), (A4, oc)] ++ tups) (hri : rs.length = i) (hrows : RowsAre yi rs) (hfl : FoundAre tups fl rs) (hsl : IntsAre sl (starsOf rs)) (hto : OwnOff tups [Ds, Df, D2, A4])
    (hm : ∀ z, rcStored.contains z = false → m₁ z = if z = Str.ofString "stars" then some (Value.ref Ds) else none) : ReadJ Ds Df D2 A4 vi oc yi i m₁ news₁
theorem three_parts {vs : List Value} {P : List Str} (h : StrsAre vs P) : P = [] ∨ (∃ p0 t0, P = [p0] ∧ vs = [.str p0 t0]) ∨ ∃ p0 t0 p1 t1 pr tl, P = p0 :: p1 :: pr ∧ vs = .str p0 t0 :: .str p1 t1 :: tl ∧ StrsAre tl pr := by
  cases h with
  | nil => exact .inl rfl
  | cons p t h =>
    cases h with
    | nil => exact .inr (.inl ⟨_, _, rfl, rfl⟩)
    | cons q u h => exact .inr (.inr ⟨_, _, _, _, _, _, rfl, rfl, h⟩)
theorem read_spec {prog : Program} {w : World} {dp un : Nat} {gd : Option (List Code)} {cn : Str} {cs : Scope} {a : Addr} {ccd : Value} {cl : List (Str × Addr)} {outer : List Env} {A₀ : Around} {base h₀ : Heap} {L : Addr} {m : Str → Option Value} {s : Shared} {Q E : Value → Shared → Prop} {loose : List Str} {mean : ExcName → Option Value} {mg mb : Str → Option Value}
  {x : Str} {t : Tok} {news : List (Addr × Obj)}
  (B : Below A₀ base outer h₀) (F : Fr h₀ L s.heap m) (X : (Mine.heapK w.params).In h₀) (N : News h₀ L s.heap news) (T : Top Mine.hd.view_433 loose mean mg mb h₀) (hk : cs.kind = .function)
  (hd : dp + 100 < recursionLimit) (hu : un + 500 < cLine) (hx : x.length ≤ 10000) (hxo : PyData.strOk x = true) (hxr : (Txt.split x (Str.ofString "\n")).length ≤ 60)
  (ret : ∀ h' tk' D rs, Parses x rs → CodeAt h' D (rs.map (·.2)) → Kept [] s.heap h' → Fr h₀ L h' m → News h₀ L h' news → Q (.ref D) { s with heap := h', toks := tk' })
  (bad : (∀ rs, ¬ Parses x rs) → BadOut base (envX cn cs L a ccd cl :: outer) E s) :
  wpAny (model prog w) (ktrTop dp un gd cn cs L a ccd cl outer) (call (.ref 164) [.str x t]) Q E s := by
  refine wpAny_call ?_
  k_dflt (refine' code_cells (binds := [(Str.ofString "text", .str x t)]) ?k1 ?k2 ?k3 ?k5 ?kA ?kF ?kK ?k6 ?k7 ?k8 ?k9 ?kB ?kD ?_ ?c2 ?c3 ?c4; (case kA => exact rfl); (case kF => exact rfl); (case kK => assumption); (case k1 => k_asm); (case k2 => k_asm); (case k3 => k_asm); (case k5 => k_asm); (case k6 => k_is); (case k7 => k_is); (case k8 => k_room); (case k9 => exact BindsTo.of_eq rfl); (case kB => exact rfl); (case kD => decide +kernel); (case c2 => exact rfl); (case c3 => exact rfl); (case c4 => exact rfl); k_whole)
  intro g L' h' tk cells hG hG' FG' F' N' Y' B' X' T'
  have kept : ∀ (h' : Heap) L' m', Fr g L' h' m' → Kept [] s.heap h' ∧ Fr h₀ L h' m ∧ News h₀ L h' news := fun h' L' m' F' =>
    have k : Kept [] s.heap h' := fun b o e n => F'.keep b o (hG b o e n)
    ⟨k, fr_kept F k.all, news_kept N k.all⟩
  clear F N B X T
  (try dsimp only)
  (try (refine fold_ ?_; k_fold))
  k_cells Y'
  (try simp only [List.cons_append, List.nil_append] at N')
  (try dsimp only)
  k_steps
  refine Stop.of ?_
  refine split_made (by assumption) (by assumption) (by decide) ?_ (by rw [sizeLine_eq]; omega)
  intro D vs h₂ tk₂ hS F₂ N₂ l₂
  (try (refine fold_ ?_; k_fold))
  rcases PyProof.Rows.strs_nil_or_snoc hS with ⟨rfl, e⟩ | ⟨vi, yi, y, t', rfl, hsp, hSi⟩
  · exact absurd e (split_ne _ _)
  k_lt l₂
  have hz0 : (Txt.split x (Str.ofString "\n")).length ≤ 10001 := by
    have := split_weight x (Str.ofString "\n") (by decide)
    omega
  have hvz : (vi ++ [Value.str y t']).length ≤ sizeLine := by
    have h1 := hS.length
    rw [sizeLine_eq]
    omega
  k_steps
  refine Stop.of ?_
  k_dflt (refine item_last (News.isList (by k_asm) (by k_mem)) ?_)
  k_steps
  · refine badgo_of B' (by assumption) hG (bad ?_) _ rfl
    rintro rs' ⟨yi', g1, _⟩
    rw [hsp] at g1
    obtain ⟨_, e1⟩ := List.append_inj' g1 rfl
    have e2 : y = Str.ofString "" := by simpa using e1
    have e3 : (y != Str.ofString "") = true := by assumption
    rw [e2] at e3
    exact absurd e3 (by decide)
  refine Stop.of ?_
  k_dflt (refine kmk_slice_lit (by k_asm) (by k_asm) (by exact News.isList (by k_asm) (by k_mem)) (by kmk_part) (by kmk_part) (by exact pick_init _) ?_ (by with_unfolding_all rfl) (by kmk_pure) (by (rw [List.size_toArray]; assumption)))
  intro D2 h10 F' N' l10
  (try k_lt l10)
  k_steps
  refine Stop.of ?_
  rename Fr _ _ _ _ => F3
  rename News _ _ _ _ => N3
  rename_i o0 d0 h3 hyE Df h4 l4 Ds h5 l5 Dp h6 l6 h7 h8 oc hoc h9 kF9 N9
  have F4 := F3
  refine enum_list (news := [(Ds, W.listOf #[] 0), (Df, W.listOf #[] 0), (D2, W.listOf vi.toArray 0), (L' + 1, oc)]) rfl F3 (fun q hq => N3 q ?_) (ReadJ Ds Df D2 (L' + 1) vi oc yi)
    ⟨[], [], [], 0, 0, [], rfl, rfl, fun j r h => by simp at h, ⟨rfl, fun j b x k h => by simp at h⟩, .nil, by simp [OwnOff], ?_⟩ (.inr ⟨0, .tail _ (.tail _ (.head _)), ?_⟩) ?_ ?_
  · simp only [List.mem_cons, List.not_mem_nil, or_false] at hq ⊢
    rcases hq with h | h | h | h <;> simp [h]
  · intro z hz
    have z2 : z ≠ Str.ofString "rows" := fun e => by rw [e] at hz; exact absurd hz (by decide)
    have z3 : z ≠ Str.ofString "text" := fun e => by rw [e] at hz; exact absurd hz (by decide)
    have z4 : bindL (envOfC (Str.ofString "read_code") rcScope L' 164 (.ref 163)).kindOf [(Str.ofString "text", Value.str x t)] (fun _ => none) z = none := by
      show (if z = Str.ofString "text" then _ else _) = _
      rw [if_neg z3]
    rw [if_neg z2]
    by_cases z1 : z = Str.ofString "stars"
    · rw [if_pos z1, if_pos z1]
    · rw [if_neg z1, if_neg z1]; exact z4
  · rintro i m' news' ⟨rs, fl, sl, fn, sn, tups, rfl, _, _, _, _, _, _⟩
    exact .tail _ (.tail _ (.head _))
  · intro i v T t m₁ news₁ h₁ tk₁ own hv hJ hoff F₂ N₂ hT
    (try (refine fold_ ?_; k_fold))
    obtain ⟨rs, fl, sl, fn, sn, tups, rfl, hri, hrows, hfl, hsl, hto, hm⟩ := hJ
    have hi : i < vi.length := (List.getElem?_eq_some_iff.mp hv).1
    obtain ⟨row, rt, rfl, hyrow⟩ := strs_get hSi hv
    have hrl : row.length ≤ 10000 := Nat.le_trans (part_short (by rw [hsp]; exact List.mem_append_left _ (List.mem_of_getElem? hyrow))) hx
    rw [map_form _ hm] at F₂
    obtain ⟨rest, hrest⟩ : ∃ r, r = tups ++ own := ⟨_, rfl⟩
    have hro : OwnOff rest [Ds, Df, D2, L' + 1] := by
      rw [hrest]
      exact kd_off (fun p hp b hb => hoff p hp b (by simp only [List.map_append]; exact List.mem_append_left _ (by simpa using hb))) hto
    rw [List.append_assoc, ← hrest] at N₂
    simp only [List.cons_append, List.nil_append] at N₂
    refine unpackN_ F₂ N₂ hT rfl rfl rfl fun h₂ F₃ N₃ => ?_
    clear kF9 N9 F3 N3 F4 F₂ N₂
    k_steps
    refine Stop.of (split_made (by assumption) (by assumption) (by decide) ?_ (by rw [sizeLine_eq]; omega))
    intro D5 ps h₅ tk₅ hP F₅ N₅ l₅
    (try (refine fold_ ?_; k_fold))
    k_lt l₅
    obtain ⟨P, hPe⟩ : ∃ P, Txt.split (Txt.slice row (some 1) none) (Str.ofString " ") = P := ⟨_, rfl⟩
    have hPs : ∀ p ∈ P, p.length ≤ 10000 := fun p hp => by
      have := part_short (y := Str.ofString " ") (hPe ▸ hp)
      omega
    rw [hPe] at hP
    have fails : readRow i row = none → BadOut base (envX cn cs L a ccd cl :: outer) E s := fun hn => bad (no_parse hsp hyrow hn)
    rcases three_parts hP with rfl | ⟨p0, t0, rfl, rfl⟩ | ⟨p0, t0, p1, t1, pr, tl, rfl, rfl, hpr⟩
    · exact absurd hPe (split_ne _ _)
    · have hnone : readRow i row = none := by
        unfold readRow
        split
        · rw [hPe]
        · rfl
      k_steps
      all_goals exact badgo_of B' (by assumption) hG (fails hnone) _ rfl
    · have htl : tl.length ≤ 100000 := by
        have h1 := hpr.length
        have h2 := split_weight (Txt.slice row (some 1) none) (Str.ofString " ") (by decide)
        rw [hPe] at h2
        simp only [List.length_cons] at h2
        omega
      have hpz : (Value.str p0 t0 :: Value.str p1 t1 :: tl).length ≤ sizeLine := by
        rw [sizeLine_eq]; simp only [List.length_cons]; omega
      have hpz2 : (p1 :: pr).length ≤ 100000 := by
        have h2 := split_weight (Txt.slice row (some 1) none) (Str.ofString " ") (by decide)
        rw [hPe] at h2
        simp only [List.length_cons] at h2 ⊢
        omega
      have hpo : ∀ p ∈ p1 :: pr, p.length ≤ 100000 ∧ PyData.strOk p = true := fun p hp =>
        ⟨Nat.le_trans (hPs p (.tail _ hp)) (by omega), strOk_part (hPe ▸ List.Mem.tail _ hp) (strOk_slice (strOk_part (by rw [hsp]; exact List.mem_append_left _ (List.mem_of_getElem? hyrow)) hxo))⟩
      have hsz1 : sl.toArray.size ≤ sizeLine := by
        have h1 := hsl.length
        have h2 := starsOf_length rs
        rw [List.size_toArray, sizeLine_eq]
        rw [sizeLine_eq] at hvz
        simp only [List.length_append, List.length_singleton] at hvz
        omega
      have hsz2 : fl.toArray.size ≤ sizeLine := by
        have h1 := hfl.1
        rw [List.size_toArray, sizeLine_eq]
        rw [sizeLine_eq] at hvz
        simp only [List.length_append, List.length_singleton] at hvz
        omega
      have hp0 : p0.length ≤ 100000 := Nat.le_trans (hPs _ (.head _)) (by omega)
      k_steps
      rotate_left
      · refine badgo_of B' (by assumption) hG (fails ?_) _ rfl
        unfold readRow
        rw [if_neg (Bool.eq_false_iff.mp (by assumption))]
      rename (List.any _ _) = true => hstar
      have hrp := row_pos hstar
      refine Stop.of ?_
      refine' whole_spec ?B ?F ?X ?N ?T ?hk ?hd ?hu ?hx ?ret ?bad; (case B => k_asm); (case F => k_asm); (case X => k_asm); (case N => k_asm); (case T => k_asm); (case hk => first | exact rfl | assumption); (case hd => ((try dsimp only); omega)); (case hu => ((try dsimp only); omega)); (case hx => assumption)
      case bad =>
        intro hn
        refine badout_on B' (by assumption) hG (fails ?_)
        unfold readRow
        rw [if_pos hstar, hPe]
        show (if wholeOf p0 = _ then _ else _) = none
        rw [hn, if_neg (by intro e; cases e)]
      intro h₆ tk₆ n₆ t₆ hw hK₆ F₆ N₆
      k_steps
      · refine badgo_of B' (by assumption) hG (fails ?_) _ rfl
        unfold readRow
        rw [if_pos hstar, hPe]
        show (if wholeOf p0 = _ then _ else _) = none
        rw [hw, if_neg]
        intro e
        have e7 := Option.some.inj e
        first
          | exact absurd e7 (by assumption)
          | exact absurd e7.symm (by assumption)
      · refine Stop.of ?_
        refine star_join (Ds := Ds) (sl := sl) (sn := sn) (v := Value.int (i : Int) t) (by assumption) (by assumption) (by k_updF) ?app ?go
        case app =>
          intro Qz hQz
          (try dsimp only at hQz)
          k_steps
          (try (k_dflt (show wpAny _ _ (call (Value.builtin _) [Value.ref _, _]) _ _ _); k_steps))
          rename News _ _ _ _ => Nz
          (try rw [List.push_toArray] at Nz)
          exact hQz _ _ (by assumption) Nz
        case go =>
        intro h' tk' sl' sn' hs9 F9 N9
        (try dsimp only at N9)
        (try dsimp only)
        k_steps
        refine Stop.of ?_
        k_dflt (refine kmk_slice_lit (by k_asm) (by k_asm) (by exact News.isList (by k_asm) (by k_mem)) (by kmk_part) (by kmk_part) (by exact pick_tail _) ?_ (by with_unfolding_all rfl) (by kmk_pure) (by (rw [List.size_toArray]; assumption)))
        intro D' h' F' N' l1
        (try k_lt l1)
        k_steps
        refine Stop.of ?_
        refine' readop_spec (vs := Value.str p1 t1 :: tl) (ps := p1 :: pr) ?Ba ?Fa ?Xa ?Na ?Ta ?hka ?hda ?hua ?hla ?hsa ?h1a ?hxa ?hza ?reta ?bada; (case Ba => k_asm); (case Fa => k_asm); (case Xa => k_asm); (case Na => k_asm); (case Ta => k_asm); (case hka => first | exact rfl | assumption); (case hda => ((try dsimp only); omega)); (case hua => ((try dsimp only); omega)); (case hla => exact News.isList (by k_asm) (.head _)); (case hsa => exact .cons _ _ hpr); (case h1a => exact Nat.succ_le_succ (Nat.zero_le _)); (case hxa => exact hpo); (case hza => exact hpz2)
        case bada =>
          intro hn
          refine badout_on B' (by assumption) hG (fails ?_)
          unfold readRow
          rw [if_pos hstar, hPe]
          show (if wholeOf p0 = _ then _ else _) = none
          rw [hn]
          split <;> rfl
        intro h₇ tk₇ n₇ t₇ hro7 hK₇ F₇ N₇
        k_steps
        rename_i D8 h8 l8 Dt h9 l9 h11 Ff Nf
        have hread : readRow i row = some (Txt.item row 0 == Str.ofString "*", p1, n₇) := by
          unfold readRow
          rw [if_pos hstar, hPe]
          show (if wholeOf p0 = _ then _ else _) = _
          have hni : n₆ = (i : Int) := by assumption
          rw [hw, hni, if_pos rfl, hro7]
          rfl
        have hlt : AllLt Dt rest := l9.2.2.2.2.2.2.2
        refine ⟨_, _, _, [(Ds, W.listOf sl'.toArray sn'), (Df, W.listOf (fl ++ [Value.ref Dt]).toArray (fn + 1)), (D2, W.listOf vi.toArray 0), (L' + 1, oc)] ++ ((Dt, tupObj p1 n₇ t1 t₇) :: tups), rfl, Ff, end_news hrest Nf, end_off hrest hlt hoff,
          rs ++ [(Txt.item row 0 == Str.ofString "*", p1, n₇)], fl ++ [Value.ref Dt], sl', fn + 1, sn', (Dt, tupObj p1 n₇ t1 t₇) :: tups, rfl, by simp [hri], rows_snoc hrows (by rw [hri]; exact hyrow) (by rw [hri]; exact hread), found_snoc hfl, by rw [starsOf_snoc, hri]; rcases hs9 with ⟨e, rfl⟩ | ⟨e, rfl⟩ <;> rw [e]; exact ints_snoc hsl _ _; simpa using hsl, end_tup l9.2.2.2.1 l9.2.2.2.2.1 l9.2.2.2.2.2.1 l9.2.2.2.2.2.2.1 hto, fun z hz => m_end hz⟩
  · intro h₂ tk₂ m₂ news₂ F₂ N₂ hJ
    (try (refine fold_ ?_; k_fold))
    obtain ⟨rs, fl, sl, fn, sn, tups, rfl, hri, hrows, hfl, hsl, hto, hm⟩ := hJ
    clear kF9 N9 F3 N3 F4
    rw [map_form _ hm] at F₂
    simp only [List.cons_append, List.nil_append] at N₂
    have hcode : CodeAt h₂ Df (rs.map (·.2)) := code_at N₂ (.tail _ (.head _)) (fun p hp => .tail _ (.tail _ (.tail _ (.tail _ hp)))) hfl
    have hwords : WordsOk (rs.map (·.2)) := fun i hi => (rows_mem hrows i hi).1
    have hlen60 : (rs.map (·.2)).length ≤ 60 := by
      have h2 := hS.length
      simp only [List.length_append, List.length_singleton] at h2
      rw [List.length_map]
      omega
    have hyl : rs.length = yi.length := by rw [hri, hSi.length]
    have hflz : fl.length ≤ 100000 := by
      have h1 := hfl.1
      rw [sizeLine_eq] at hvz
      have h2 := hS.length
      simp only [List.length_append, List.length_singleton] at h2
      omega
    k_steps
    refine Stop.of (ListComp_DCn (K := ItemKind.int) (h₀ := g) (L := L') (m := fun z => if rcStored.contains z = true then m₂ z else if z = Str.ofString "stars" then some (Value.ref Ds) else none) (cl := [(Str.ofString "found", L' + 1)]) (pz := fun k => decide (k < (fl.length : Int))) (d := PyData.int) rfl (by with_unfolding_all rfl) (by decide) rfl (by decide) rfl ?_ (by intro _; rfl))
    k_steps
    refine Stop.of ?_
    refine' met_spec (c := rs.map (·.2)) ?Bm ?Fm ?Xm ?Nm ?Tm ?hkm ?hdm ?hum ?hcm ?hwm ?hlm ?_; (case Bm => k_asm); (case Fm => k_asm); (case Xm => k_asm); (case Nm => k_asm); (case Tm => k_asm); (case hkm => exact rfl); (case hdm => ((try dsimp only); omega)); (case hum => ((try dsimp only); omega)); (case hcm => exact hcode); (case hwm => exact hwords); (case hlm => exact hlen60)
    intro h₉ tk₉ Dm vm nm em hM hZ hI hK₉ hD₉ F₉ N₉
    have hrl : (fl.length : Int) = (rs.length : Int) := by rw [hfl.1]
    refine ⟨_, Dm, vm, nm, rfl, ⟨_, (N₉ _ (.head _)).1, rfl, em, rfl⟩, IntsAre.areOf hI, by rw [sizeLine_eq]; omega, F₉, N₉, ?_, ?_, ?_⟩
    · rintro C a9 v9 s₃ m₃ E' _ _ ⟨t9, rfl⟩ hNs hxp hkp
      have up : ∀ b o, g.get? b = some o → s₃.heap.get? b = some o := fun b o e => hkp b o (F₉.keep b o e)
      exact place_test rfl rfl (by with_unfolding_all rfl) hNs hxp ⟨oc, hkp _ _ (N₉ _ (.tail _ (.tail _ (.tail _ (.tail _ (.head _)))))).1, hoc⟩ ⟨_, hkp _ _ (N₉ _ (.tail _ (.tail _ (.head _)))).1, rfl, fn, rfl⟩ hflz (T'.g.keeps up) (mg_none_of X' T'.g (by k_is)) (T'.b.keeps up) ((T'.builtins _ (by decide)).trans (by decide +kernel))
    · rintro C a9 v9 s₃ m₃ E' _ _ ⟨t9, rfl⟩ _ hNs hxp hkp
      exact wpAny_Name (wpAny_loadName_local (by with_unfolding_all rfl) (by with_unfolding_all rfl) hNs hxp ⟨.int _ _, _, _, rfl, fun _ _ e => e⟩)
    · intro D9 ys9 h12 tk12 F12 N12 hD9 hl9 hp9 hC9
      have hj9 : IntsAre ys9 (nm.filter fun k => decide (k < (fl.length : Int))) := IntsAre.ofCarried hC9
      refine ke_ne_ints (News.isList N12 (.tail _ (.head _))) hl9 hsl hj9 (by (try dsimp only); k_units) ?_
      have hiff := stars_iff hM (fun i hi => (rows_mem hrows i hi).2)
      rw [hrl]
      have hcode12 : CodeAt h12 Df (rs.map (·.2)) := code_at N12 (.tail _ (.tail _ (.head _))) (fun p hp => .tail _ (.tail _ (.tail _ (.tail _ (.tail _ hp))))) hfl
      have hy0 : y = Str.ofString "" := by first | simpa using h3 | simpa using hyE
      k_steps
      · refine Stop.of (leaveK_ F12 N12 ?_)
        intro _ _
        obtain ⟨k1, k2, k3⟩ := kept _ _ _ F12
        exact ret _ _ _ rs ⟨yi, by rw [hsp, hy0], hyl, hrows, hiff.mp (by assumption)⟩ hcode12 k1 k2 k3
      · refine call_len_list (News.isList N12 (.tail _ (.tail _ (.head _)))) (by rw [List.size_toArray]; omega) ?_
        k_steps
        refine badgo_of B' F12 hG (bad ?_) _ rfl
        rintro rs' ⟨yi', g1, g2, g3, g4⟩
        rw [hsp] at g1
        obtain ⟨e1, _⟩ := List.append_inj' g1 rfl
        rw [← e1] at g2 g3
        have e2 := rows_unique hrows g3 (by omega)
        rw [← e2] at g4
        exact absurd (hiff.mpr g4) (by assumption)
end


section
variable {prog : Program} {w : World} {A₀ A : Around} {s : Shared} {base h₀ : Heap} {outer : List Env} {L : Addr} {m mg mb : Str → Option Value} {env : Env} {K : Frag} {p : Program} {loose : List Str} {mean : ExcName → Option Value}
  {R : Result → Shared → Prop} {name qual : Str} {params : Arguments} {body : List Stmt} {scope : Scope} {dV kV doc pm cdv ct oc : Value} {an od : Option Addr} {osl : Array (Option Value)} {f : Addr} {args : Args} {binds : List (Str × Value)}
/-- a call of a def that may catch: what it hands back is said of the heap itself -/
theorem code_open (B : Below A₀ base outer h₀) (F : Fr h₀ L s.heap m) (X₀ : K.In h₀) (T : Top p loose mean mg mb h₀) (hA : A.frames = some (env :: outer)) (hf : env.frame = some L) (hke : env.scope.kind = .function)
    (ho : K.lookup f = some ⟨oc, od, .func (fnOf name qual params body scope dV kV doc pm an cdv ct), osl⟩) (hcd : codeIn K cdv qual = true) (hroom : A.depth < recursionLimit)
    (hbind : BindsTo s (fnOf name qual params body scope dV kV doc pm an cdv ct) args binds) (hloc : ∀ y ∈ binds, scope.names.lookup y.1 = some .local)
    (h : ∀ g L' h₁ tk, Kept [] s.heap g → (∀ b o, g.get? b = some o → s.heap.get? b = some o) → Fr h₀ L g m → Fr g L' h₁ (fun y => binds.reverse.lookup y) → News g L' h₁ [] → Below A base (env :: outer) g → K.In g → Top p loose mean mg mb g →
      wpAny (model prog w) (A.deeper (envOf qual scope L' f cdv)) (execs body (envOf qual scope L' f cdv))
        (fun fl s' => R (.ok (.ret (match fl with | .ret v => v | _ => .none))) s')
        (fun e s' => wpAny (model prog w) (A.deeper (envOf qual scope L' f cdv)) (leaving (envOf qual scope L' f cdv) e) (fun _ s'' => R (.error e) s'') (fun e' s'' => R (.error e') s'') s')
        { s with heap := h₁, toks := tk })
    (hco : scope.isCoroutine = false) (hgen : scope.isGenerator = false) (hk : scope.kind = .function)
    (hcell : ∀ x ∈ scope.names, x.2 ≠ .cell) : codeAny (model prog w) A (.call (.ref f) args) R s := by
  obtain ⟨FG, BG, st, _⟩ := groundX (R := R) B F News.nil hA hf hke
  refine codeAny_call_def (fd := fnX name qual params body scope [] dV kV doc pm an cdv ct) (body := body) (binds := binds) hroom ((X₀.keeps F.keep) _ _ ho) rfl (T.nolimit.keeps F.keep) (codeRec_of (X₀.keeps F.keep) hcd) rfl hbind hcell hloc (fun h₁ hns hk₁ => ?_) hco hgen hk
  exact h _ s.heap.objs.size h₁ _ (fun b o e n => hideAll_get _ e n) (fun b o e => of_hideAll _ e) FG ⟨hns, fun b o e => hk₁ b o (of_hideAll _ e), Nat.le_of_eq (hideAll_size _ _)⟩ News.nil BG (X₀.keeps st) (T.keeps st)
end

section
variable {prog : Program} {w : World} {A₀ : Around} {E : Value → Shared → Prop} {s' : Shared} {base g G : Heap} {outer : List Env} {L a e : Addr} {m : Str → Option Value} {name : Str} {scope : Scope} {cd : Value}
  {b₀ : Stmt} {suite : List Stmt} {pos np : Pos} {rest : List ExceptHandler} {Q : Flow → Shared → Prop} {p : Program} {loose : List Str} {mean : ExcName → Option Value} {mg mb : Str → Option Value}
/-- a BadText lands in the frame's own `except BadText` -/
theorem caught_bad (R : RaisedSN base G (envOf name scope L a cd :: outer) e (.ref 130) [] s'.heap) (F : Fr g L G m) (K : Below A₀ base outer g) (hsm : G.UpToSlots s'.heap) (XB : (Mine.heapK w.params).In base) (TB : Top p loose mean mg mb base)
    (k : ∀ h', (∀ b o, G.get? b = some o → b ∉ (envOf name scope L a cd :: outer).filterMap (·.frame) → h'.get? b = some o) → G.UpToSlots h' →
      wpAny (model prog w) ((A₀.deeper (envOf name scope L a cd)).mark (some (.ref e))) (execs (b₀ :: suite) (envOf name scope L a cd)) Q E { s' with heap := h' })
    (hk : scope.kind = .function := by rfl) (hx : (envOf name scope L a cd).kindOf (Str.ofString "BadText") = some .globalImplicit := by rfl)
    (hE : PassesOwnAt (model prog w) ((A₀.deeper (envOf name scope L a cd)).mark (some (.ref e))) (A₀.deeper (envOf name scope L a cd)) (envOf name scope L a cd) E := by passes_own) :
    wpAny (model prog w) (A₀.deeper (envOf name scope L a cd)) (noteFrame (.ref e) (envOf name scope L a cd))
      (fun _ s₂ => wpAny (model prog w) (A₀.deeper (envOf name scope L a cd)) (setFlight (.ref e) none) (fun _ s₃ =>
        wpAny (model prog w) (A₀.deeper (envOf name scope L a cd)) (handleBy (.ref e) (envOf name scope L a cd) (.ExceptHandler (some (.Name (Str.ofString "BadText") np)) none (b₀ :: suite) pos :: rest)) Q E s₃) E s₂) E s' := by
  obtain ⟨B, a0, hB, hBG, _, hfl⟩ := R
  refine wpAny_looks_onW (Around.frames_deeper K.stack) rfl hfl fun h₄ hheld₄ hsm₄ => ?_
  refine wpAny_landsW hheld₄ fun h₅ hheld hsm₅' => ?_
  have hsm₅ := hsm₄.trans hsm₅'
  obtain ⟨g₅, T₅, F₅, K₅⟩ := kts_ground K F hBG hheld.1 (hsm.trans hsm₅)
  have X₅ : (Mine.heapK w.params).In g₅ := XB.keeps K₅.stays
  have P₅ : TopRead p loose mg mb g₅ := topRead_of (TB.keeps K₅.stays)
  obtain ⟨ob, hob, hobc⟩ := hheld.there
  obtain ⟨nm, q, bs, hdct, sn, sub, ab, col, dd, k0, k1, k2, k3, k5, hcls⟩ := cls130 w
  have hC₅ := F₅.keep _ _ (X₅ _ _ hcls)
  refine wpAny_handleBy_cons (codeAny_handlers_test (name_K F₅ X₅ P₅ (by k_is) ?_ hk hx (by decide))) (by intro q; cases q)
  refine wpAny_excMatches_sub_self hC₅ hob hobc (by rfl) (codeAny_handlers_suite ?_)
  refine lands_againW hheld fun h₆ hfl₆ hsm₆ => ?_
  exact wpAny_passesOwnAt hE (k h₆ (fun b o q nm => hfl₆.1 _ _ (hBG b o q nm)) ((hsm.trans hsm₅).trans hsm₆))
end

section
theorem back_spec {prog : Program} {w : World} {dp un : Nat} {gd : Option (List Code)} {cn : Str} {cs : Scope} {a : Addr} {ccd : Value} {cl : List (Str × Addr)} {A₀ : Around} {h₀ : Heap} {L : Addr} {m : Str → Option Value} {s : Shared} {Q E : Value → Shared → Prop} {loose : List Str} {mean : ExcName → Option Value} {mg mb : Str → Option Value}
  {x : Str} {t : Tok}
  (B : Below A₀ h₀ [] h₀) (F : Fr h₀ L s.heap m) (X : (Mine.heapK w.params).In h₀) (T : Top Mine.hd.view_433 loose mean mg mb h₀) (hk : cs.kind = .function)
  (hd : dp + 120 < recursionLimit) (hu : un + 600 < cLine) (hx : x.length ≤ 10000) (hxo : PyData.strOk x = true) (hxr : (Txt.split x (Str.ofString "\n")).length ≤ 60)
  (ret : ∀ h' tk' D rs, Parses x rs → CodeAt h' D (rs.map (·.2)) → Kept [L] s.heap h' → s.heap.UpToSlots h' → Q (.ref D) { s with heap := h', toks := tk' })
  (none_ : ∀ h' tk', (∀ rs, ¬ Parses x rs) → Kept [L] s.heap h' → s.heap.UpToSlots h' → Q .none { s with heap := h', toks := tk' }) :
  wpAny (model prog w) (ktrTop dp un gd cn cs L a ccd cl []) (call (.ref 190) [.str x t]) Q E s := by
  refine wpAny_call ?_
  k_dflt (refine' code_open (binds := [(Str.ofString "text", .str x t)]) ?k1 ?k2 ?k3 ?k5 ?kA ?kF ?kK ?k6 ?k7 ?k8 ?k9 ?kB ?_ ?c2 ?c3 ?c4 ?c5; (case kA => exact rfl); (case kF => exact rfl); (case kK => assumption); (case k1 => k_asm); (case k2 => k_asm); (case k3 => k_asm); (case k5 => k_asm); (case k6 => k_is); (case k7 => k_is); (case k8 => k_room); (case k9 => exact BindsTo.of_eq rfl); (case c5 => decide); (case kB => exact locs rfl); (case c2 => exact rfl); (case c3 => exact rfl); (case c4 => exact rfl); k_whole)
  intro g L' h' tk hG hG' FG' F' N' B' X' T'
  (try dsimp only)
  k_steps
  refine Stop.of (read_spec (news := []) B' F' X' N' T' rfl (by (try dsimp only); omega) (by (try dsimp only); omega) hx hxo hxr ?_ ?_)
  · intro h₂ tk₂ D rs hP hC hK F₂ N₂
    have kk : ∀ b o, s.heap.get? b = some o → h₂.get? b = some o := fun b o e => hK b o (F'.keep b o (hG b o e (by simp))) (by simp)
    exact ret _ _ D rs hP hC (fun b o e _ => kk b o e) (Heap.UpToSlots.of_keeps kk)
  · intro hn h₂ tk₂ e R U
    refine caught_bad (s' := { s with heap := h₂, toks := tk₂ }) R F' B' U X T ?_
    intro h₃ hk₃ hu₃
    have kk : ∀ b o, s.heap.get? b = some o → h'.get? b = some o := fun b o e => F'.keep b o (hG b o e (by simp))
    k_steps
    refine none_ _ _ hn (fun b o e hb => hk₃ b o (kk b o e) fun hm => ?_) ((Heap.UpToSlots.of_keeps kk).trans hu₃)
    rcases mem_frames hm with z | z
    · have := hG b o e (by simp)
      rw [z, kts_self F'] at this
      cases this
    · rcases mem_frames z with z | z
      · exact hb (by rw [z]; exact .head _)
      · simp at z
end


noncomputable abbrev cs (x : Str) : List Nat := x.cps.toList
theorem cs_inj {x y : Str} (h : cs x = cs y) : x = y := Str.ext' (Array.toList_inj.mp h)
theorem cs_append (x y : Str) : cs (x ++ y) = cs x ++ cs y := by
  show (x ++ y).cps.toList = _
  rw [Str.cps_append, Array.toList_append]
theorem cs_length (x : Str) : (cs x).length = x.length := by
  show x.cps.toList.length = x.cps.size
  rw [Array.length_toList]
theorem cs_from {x : Str} {k : Int} (h0 : 0 ≤ k) (h1 : k ≤ (x.length : Int)) : cs (Txt.slice x (some k) none) = (cs x).drop k.toNat := by
  rw [slice_from_eq h0 h1 rfl]
  show List.take _ _ = _
  refine List.take_of_length_le ?_
  rw [List.length_drop, cs_length]
  omega
theorem cs_to {x : Str} {k : Int} (h0 : 0 ≤ k) (h1 : k ≤ (x.length : Int)) : cs (Txt.slice x none (some k)) = (cs x).take k.toNat := by
  have := beq_iff_eq.mp (slice_closes_toL h0 h1)
  rw [this]
  show List.take _ (List.drop 0 _) = _
  rw [List.drop_zero, Int.sub_zero]

/-- the parts glued by the sign c -/
noncomputable def gl (c : Nat) : List (List Nat) → List Nat
  | [] => []
  | [a] => a
  | a :: b :: r => a ++ c :: gl c (b :: r)
theorem cs_join (c : Nat) : ∀ ps : List Str, cs (Str.join ⟨#[c]⟩ ps) = gl c (ps.map cs)
  | [] => rfl
  | [a] => rfl
  | a :: b :: r => by
    show cs (a ++ ⟨#[c]⟩ ++ Str.join ⟨#[c]⟩ (b :: r)) = cs a ++ c :: gl c ((b :: r).map cs)
    rw [cs_append, cs_append, cs_join c (b :: r), List.append_assoc]
    rfl
theorem gl_cons (c : Nat) (a : List Nat) {r : List (List Nat)} (h : r ≠ []) : gl c (a :: r) = a ++ c :: gl c r := by
  cases r with
  | nil => exact absurd rfl h
  | cons b r => rfl
theorem app_free {c : Nat} : ∀ {a b X Y : List Nat}, a ++ c :: X = b ++ c :: Y → c ∉ a → c ∉ b → a = b ∧ X = Y
  | [], [], X, Y, h, _, _ => ⟨rfl, by simpa using h⟩
  | [], d :: b, X, Y, h, _, hb => by
    have := (List.cons.inj h).1
    exact absurd (by rw [this]; exact .head _) hb
  | d :: a, [], X, Y, h, ha, _ => by
    have := (List.cons.inj h).1
    exact absurd (by rw [← this]; exact .head _) ha
  | d :: a, e :: b, X, Y, h, ha, hb => by
    have h1 := (List.cons.inj h).1
    obtain ⟨h2, h3⟩ := app_free (List.cons.inj h).2 (fun q => ha (.tail _ q)) (fun q => hb (.tail _ q))
    exact ⟨by rw [h1, h2], h3⟩
theorem gl_inj {c : Nat} : ∀ {ps qs : List (List Nat)}, ps ≠ [] → qs ≠ [] → (∀ p ∈ ps, c ∉ p) → (∀ q ∈ qs, c ∉ q) → gl c ps = gl c qs → ps = qs
  | [], _, h, _, _, _, _ => absurd rfl h
  | _, [], _, h, _, _, _ => absurd rfl h
  | [a], [b], _, _, _, _, h => by rw [show a = b from h]
  | [a], b :: b' :: r, _, _, hp, _, h => by
    exfalso
    have : c ∈ a := by
      have e : a = b ++ c :: gl c (b' :: r) := h
      rw [e]; simp
    exact hp a (.head _) this
  | a :: a' :: r, [b], _, _, _, hq, h => by
    exfalso
    have : c ∈ b := by
      have e : a ++ c :: gl c (a' :: r) = b := h
      rw [← e]; simp
    exact hq b (.head _) this
  | a :: a' :: r, b :: b' :: q, _, _, hp, hq, h => by
    have e : a ++ c :: gl c (a' :: r) = b ++ c :: gl c (b' :: q) := h
    obtain ⟨h1, h2⟩ := app_free e (hp a (.head _)) (hq b (.head _))
    rw [h1, gl_inj (by simp) (by simp) (fun p m => hp p (.tail _ m)) (fun p m => hq p (.tail _ m)) h2]
theorem map_cs_inj : ∀ {ps qs : List Str}, ps.map cs = qs.map cs → ps = qs
  | [], [], _ => rfl
  | [], _ :: _, h => by cases h
  | _ :: _, [], h => by cases h
  | a :: r, b :: q, h => by
    simp only [List.map_cons, List.cons.injEq] at h
    rw [cs_inj h.1, map_cs_inj h.2]
theorem split_glue {c : Nat} {ps : List Str} (h : ps ≠ []) (hf : ∀ p ∈ ps, c ∉ cs p) : Txt.split (Str.join ⟨#[c]⟩ ps) ⟨#[c]⟩ = ps := by
  have e : gl c ((Txt.split (Str.join ⟨#[c]⟩ ps) ⟨#[c]⟩).map cs) = gl c (ps.map cs) := by
    rw [← cs_join, ← cs_join, StrLaws.join_split]
  have e2 := gl_inj (c := c) (by simpa using split_ne _ _) (by simpa using h) (fun p hp => by
    obtain ⟨q, hq, rfl⟩ := List.mem_map.mp hp
    exact StrLaws.split_free _ c q hq) (fun p hp => by
    obtain ⟨q, hq, rfl⟩ := List.mem_map.mp hp
    exact hf q hq) e
  exact map_cs_inj e2
theorem nl_is : Str.ofString "\n" = ⟨#[10]⟩ := by decide +kernel
theorem sp_is : Str.ofString " " = ⟨#[32]⟩ := by decide +kernel

/-! the text of a natural number -/
noncomputable abbrev num (n : Int) : Str := Str.ofString (toString n)
theorem cs_num (m : Nat) : cs (num (m : Int)) = (Nat.toDigits 10 m).map Char.toNat := KIN.signs_num m
theorem num_digits (m : Nat) : PySem.NumText.AllDigits (cs (num (m : Int))) := by
  intro c hc
  rw [cs_num] at hc
  obtain ⟨ch, hch, e⟩ := List.mem_map.mp hc
  have r := digit_range (Nat.isDigit_of_mem_toDigits (by decide) (by decide) hch)
  rw [← e]
  exact r
theorem num_val (m : Nat) : PySem.NumText.digitsVal (cs (num (m : Int))) = m := by rw [cs_num, KIN.val_back]
theorem num_head (m : Nat) (h : 0 < m) : ∃ c r, cs (num (m : Int)) = c :: r ∧ 49 ≤ c := by
  rw [cs_num]
  induction m using Nat.strongRecOn with
  | _ m ih =>
    by_cases hm : m < 10
    · rw [Nat.toDigits_of_lt_base hm]
      refine ⟨_, [], rfl, ?_⟩
      have : ∀ d : Nat, d < 10 → 0 < d → 49 ≤ (Nat.digitChar d).toNat := by decide
      exact this m hm h
    · have t : Nat.toDigits 10 (m / 10) ++ Nat.toDigits 10 (m % 10) = Nat.toDigits 10 (10 * (m / 10) + m % 10) := Nat.toDigits_append_toDigits (by decide) (by omega) (Nat.mod_lt m (by decide))
      rw [Nat.div_add_mod] at t
      obtain ⟨c, r, e, h9⟩ := ih (m / 10) (by omega) (by omega)
      exact ⟨c, r ++ (Nat.toDigits 10 (m % 10)).map Char.toNat, by rw [← t, List.map_append, e]; rfl, h9⟩
theorem num_zero : num ((0 : Nat) : Int) = Str.ofString "0" := by decide +kernel
theorem num_ne (m : Nat) : cs (num (m : Int)) ≠ [] := by
  by_cases h : m = 0
  · subst h; rw [num_zero]; decide
  · obtain ⟨c, r, e, _⟩ := num_head m (by omega)
    rw [e]; simp
theorem whole_num {m : Nat} (h : m < 1000000000) : wholeOf (num (m : Int)) = some (m : Int) := by
  have hok : wholeOk (num (m : Int)) = true := by
    unfold wholeOk
    have h1 : (num (m : Int) == Str.ofString "") = false := by
      rw [beq_eq_false_iff_ne]
      intro e
      exact num_ne m (by rw [e]; decide)
    have h2 : (num (m : Int)).length ≤ 9 := by
      rw [PySem.ofString_length]
      by_cases h0 : m = 0
      · subst h0; decide
      · have h9 : (Nat.toDigits 10 m).length ≤ 9 := digits10_le (by decide) (by omega)
        have : (num (m : Int)).length = (Nat.toDigits 10 m).length := by
          rw [← cs_length, cs_num, List.length_map]
        rw [PySem.ofString_length] at this
        omega
    have h3 : ((num (m : Int) == Str.ofString "0") || !(List.headD (cs (num (m : Int))) 0 == 48)) = true := by
      by_cases h0 : m = 0
      · subst h0; rw [num_zero]; decide
      · obtain ⟨c, r, e, h9⟩ := num_head m (by omega)
        rw [e]
        simp
        right; omega
    rw [h1, decide_eq_true h2]
    simp only [Bool.not_false, Bool.true_and]
    rw [h3, Bool.true_and]
    refine List.all_eq_true.mpr fun c hc => ?_
    have := num_digits m c hc
    simpa using this
  rw [(whole_int hok).1]
  show some ((PySem.NumText.digitsVal (cs (num (m : Int))) : Nat) : Int) = _
  rw [num_val]
theorem whole_back {x : Str} {n : Int} (h : wholeOf x = some n) : ∃ m : Nat, n = (m : Int) ∧ m < 1000000000 ∧ x = num (m : Int) := by
  unfold wholeOf at h
  split at h
  · rename_i hok
    have hv := (Option.some.inj h).symm
    refine ⟨PySem.NumText.digitsVal (cs x), hv, ?_⟩
    unfold wholeOk at hok
    simp only [Bool.and_eq_true, Bool.not_eq_true', decide_eq_true_eq] at hok
    obtain ⟨⟨⟨q1, q2⟩, q3⟩, q4⟩ := hok
    have hd : PySem.NumText.AllDigits (cs x) := fun c hc => by
      have := List.all_eq_true.mp q4 c hc
      simpa using this
    have hx : x = num ((PySem.NumText.digitsVal (cs x) : Nat) : Int) := by
      rcases Bool.or_eq_true_iff.mp q3 with q | q
      · have e := eq_of_beq q
        rw [e]; decide +kernel
      · refine cs_inj ?_
        rw [cs_num]
        cases e : cs x with
        | nil =>
          exfalso
          have : x = Str.ofString "" := cs_inj (by rw [e]; decide)
          rw [this] at q1
          exact absurd q1 (by decide)
        | cons c r =>
          have hc : c ≠ 48 := by
            intro h48
            have e' : x.cps.toList = c :: r := e
            rw [e', h48] at q
            exact absurd q (by simp)
          rw [e] at hd
          have h48 := hd c (.head _)
          rw [PySem.NumText.toDigits_digitsVal r.length (c :: r) rfl hd (.inr ⟨c, r, rfl, by omega⟩), List.map_map]
          have hm : (c :: r).map (Char.toNat ∘ Char.ofNat) = (c :: r).map id := by
            refine List.map_congr_left fun a ha => ?_
            have := hd a ha
            have h2 : ∀ d : Nat, d < 58 → (Char.ofNat d).toNat = d := by decide
            exact h2 a (by omega)
          rw [hm, List.map_id]
    refine ⟨?_, hx⟩
    have hl : (cs x).length ≤ 9 := by rw [cs_length]; exact q2
    have hb : ∀ (l : List Nat) (a : Nat), (∀ c ∈ l, 48 ≤ c ∧ c ≤ 57) → l.foldl (fun acc c => acc * 10 + (c - 48)) a < (a + 1) * 10 ^ l.length := by
      intro l
      induction l with
      | nil => intro a _; simp
      | cons c r ih =>
        intro a hc
        have h1 := ih (a * 10 + (c - 48)) fun d hd => hc d (.tail _ hd)
        have h2 := hc c (.head _)
        rw [List.foldl_cons, List.length_cons, Nat.pow_succ]
        refine Nat.lt_of_lt_of_le h1 ?_
        have : a * 10 + (c - 48) + 1 ≤ (a + 1) * 10 := by omega
        calc (a * 10 + (c - 48) + 1) * 10 ^ r.length ≤ ((a + 1) * 10) * 10 ^ r.length := Nat.mul_le_mul_right _ this
          _ = (a + 1) * (10 ^ r.length * 10) := by rw [Nat.mul_assoc, Nat.mul_comm 10]
    have := hb (cs x) 0 hd
    have h10 : 10 ^ (cs x).length ≤ 10 ^ 9 := Nat.pow_le_pow_right (by decide) hl
    show (cs x).foldl (fun acc c => acc * 10 + (c - 48)) 0 < 1000000000
    omega
  · cases h


def Written (x : Str) (k : Int) : Prop := ∃ y, sortOf x = some y ∧ (y = sNONE → k = -1) ∧ (y = sPLAIN → 0 ≤ k ∧ k < 45) ∧ (y ≠ sNONE → y ≠ sPLAIN → 0 ≤ k ∧ k < 1000000000)
noncomputable def opParts (x : Str) (k : Int) : List Str :=
  if sortOf x = some sNONE then []
  else if sortOf x = some sPLAIN then (match plainTab[k.toNat]? with
    | some (n, a) => [n, num a]
    | none => [])
  else [num k]
theorem names_plain : ∀ p ∈ sortTab, ∀ a ∈ cs p.1, 32 < a ∧ a < 128 := by decide +kernel
theorem plains_plain : ∀ p ∈ plainTab, ∀ a ∈ cs p.1, 32 < a ∧ a < 128 := by decide +kernel
theorem plain_nodup : plainTab.Nodup := by decide +kernel
theorem mem_gl {c : Nat} {a : Nat} : ∀ {ps : List (List Nat)}, a ∈ gl c ps → a = c ∨ ∃ p ∈ ps, a ∈ p
  | [], h => by cases h
  | [p], h => .inr ⟨p, .head _, h⟩
  | p :: q :: r, h => by
    have e : a ∈ p ++ c :: gl c (q :: r) := h
    rcases List.mem_append.mp e with e | e
    · exact .inr ⟨p, .head _, e⟩
    · rcases List.mem_cons.mp e with e | e
      · exact .inl e
      · rcases mem_gl e with e | ⟨t, h1, h2⟩
        · exact .inl e
        · exact .inr ⟨t, .tail _ h1, h2⟩
theorem op_gl {x : Str} {k : Int} (h : Written x k) (h0 : Str) : cs (h0 ++ Str.ofString " " ++ x ++ opText x k) = gl 32 ((h0 :: x :: opParts x k).map cs) := by
  obtain ⟨y, hy, h1, h2, h3⟩ := h
  have e32 : cs (Str.ofString " ") = [32] := by decide +kernel
  have ee : cs Str.empty = [] := rfl
  unfold opText opParts
  by_cases c1 : sortOf x = some sNONE
  · rw [if_pos c1, if_pos c1]
    simp only [List.map_cons, List.map_nil, cs_append, e32, gl]
    rw [show cs (Str.ofString "") = [] by decide +kernel]
    simp
  · rw [if_neg c1, if_neg c1]
    by_cases c2 : sortOf x = some sPLAIN
    · rw [if_pos c2, if_pos c2]
      have hp : y = sPLAIN := by rw [hy] at c2; exact Option.some.inj c2
      obtain ⟨p1, p2⟩ := h2 hp
      have hk : k.toNat < plainTab.length := by show k.toNat < 45; omega
      obtain ⟨⟨n, a⟩, hrow⟩ : ∃ p, plainTab[k.toNat]? = some p := ⟨_, List.getElem?_eq_getElem hk⟩
      rw [hrow]
      simp only [List.map_cons, List.map_nil, cs_append, e32, ee, gl, List.append_assoc, List.cons_append, List.nil_append]
    · rw [if_neg c2, if_neg c2]
      simp only [List.map_cons, List.map_nil, cs_append, e32, ee, gl, List.append_assoc, List.cons_append, List.nil_append]
theorem num_plain (m : Nat) : ∀ a ∈ cs (num (m : Int)), 32 < a ∧ a < 128 := fun a ha => by
  have := num_digits m a ha
  omega
theorem parts_plain {x : Str} {k : Int} (h : Written x k) : ∀ p ∈ x :: opParts x k, ∀ a ∈ cs p, 32 < a ∧ a < 128 := by
  obtain ⟨y, hy, h1, h2, h3⟩ := h
  intro p hp
  rcases List.mem_cons.mp hp with rfl | hp
  · exact names_plain _ (lookup_mem hy)
  · unfold opParts at hp
    split at hp
    · cases hp
    · rename_i c1
      split at hp
      · rename_i c2
        have hq : y = sPLAIN := by rw [hy] at c2; exact Option.some.inj c2
        split at hp
        · rename_i n a hrow
          simp only [List.mem_cons, List.not_mem_nil, or_false] at hp
          rcases hp with rfl | rfl
          · exact plains_plain _ (List.mem_of_getElem? hrow)
          · obtain ⟨_, q1, q2⟩ := plain_short _ (List.mem_of_getElem? hrow)
            dsimp only at q1 q2
            obtain ⟨m, rfl⟩ := Int.eq_ofNat_of_zero_le q1
            exact num_plain m
        · cases hp
      · rename_i c2
        rw [List.mem_singleton.mp hp]
        obtain ⟨q1, q2⟩ := h3 (fun e => c1 (by rw [hy, e])) (fun e => c2 (by rw [hy, e]))
        obtain ⟨m, rfl⟩ := Int.eq_ofNat_of_zero_le q1
        exact num_plain m
theorem readOp_parts {x : Str} {k : Int} (h : Written x k) : readOp (x :: opParts x k) = some k := by
  obtain ⟨y, hy, h1, h2, h3⟩ := h
  unfold readOp opParts
  simp only [hy]
  by_cases c1 : y = sNONE
  · rw [if_pos c1, if_pos (by rw [c1])]
    show some (-1 : Int) = some k
    rw [h1 c1]
  · rw [if_neg c1, if_neg (fun e => c1 (Option.some.inj e))]
    by_cases c2 : y = sPLAIN
    · rw [if_pos c2, if_pos (by rw [c2])]
      obtain ⟨p1, p2⟩ := h2 c2
      have hk : k.toNat < plainTab.length := by show k.toNat < 45; omega
      obtain ⟨⟨n, a⟩, hrow⟩ : ∃ p, plainTab[k.toNat]? = some p := ⟨_, List.getElem?_eq_getElem hk⟩
      obtain ⟨_, q1, q2⟩ := plain_short _ (List.mem_of_getElem? hrow)
      dsimp only at q1 q2
      obtain ⟨m, rfl⟩ := Int.eq_ofNat_of_zero_le q1
      rw [hrow]
      have hidx : plainIdx n (m : Int) = k.toNat := plainIdx_some hrow fun j hj e => by
        obtain ⟨hjl, ej⟩ := List.getElem?_eq_some_iff.mp e
        obtain ⟨hkl, ek⟩ := List.getElem?_eq_some_iff.mp hrow
        exact List.pairwise_iff_getElem.mp plain_nodup j k.toNat hjl hkl hj (ej.trans ek.symm)
      show (wholeOf (num (m : Int))).bind (fun k => if plainIdx n k < 0 then none else some (plainIdx n k)) = some k
      rw [whole_num (by omega), Option.bind_some, hidx, if_neg (by omega)]
      congr 1
      omega
    · rw [if_neg c2, if_neg (fun e => c2 (Option.some.inj e))]
      obtain ⟨q1, q2⟩ := h3 c1 c2
      obtain ⟨m, rfl⟩ := Int.eq_ofNat_of_zero_le q1
      exact whole_num (by omega)
theorem plainIdx_back {n : Str} {m : Int} (h : ¬ plainIdx n m < 0) : plainTab[(plainIdx n m).toNat]? = some (n, m) ∧ plainIdx n m < 45 := by
  unfold plainIdx at h ⊢
  split at h
  · rename_i q
    rw [if_pos q]
    have hl : plainTab.findIdx (· == (n, m)) < plainTab.length := q
    have := List.findIdx_getElem (p := (· == (n, m))) (w := hl)
    refine ⟨?_, by omega⟩
    rw [Int.toNat_natCast, List.getElem?_eq_getElem hl, eq_of_beq this]
  · exact absurd (by decide) h
theorem readOp_back {x : Str} {r : List Str} {k : Int} (h : readOp (x :: r) = some k) : Written x k ∧ r = opParts x k := by
  unfold readOp at h
  cases hy : sortOf x with
  | none => simp only [hy] at h; cases h
  | some y =>
    simp only [hy] at h
    by_cases c1 : y = sNONE
    · rw [if_pos c1] at h
      cases r with
      | nil =>
        have hk := (Option.some.inj h).symm
        refine ⟨⟨y, hy, fun _ => hk, fun e => ?_, fun e _ => absurd c1 e⟩, ?_⟩
        · rw [c1] at e; exact absurd e (by decide)
        · unfold opParts; rw [if_pos (by rw [hy, c1])]
      | cons a r => exact absurd h (by simp)
    · rw [if_neg c1] at h
      by_cases c2 : y = sPLAIN
      · rw [if_pos c2] at h
        match r, h with
        | [n, a], h =>
          change (wholeOf a).bind (fun k => if plainIdx n k < 0 then none else some (plainIdx n k)) = some k at h
          cases hw : wholeOf a with
          | none => rw [hw] at h; cases h
          | some m =>
            rw [hw, Option.bind_some] at h
            split at h
            · cases h
            · rename_i hge
              have hk := (Option.some.inj h).symm
              obtain ⟨hrow, hlt⟩ := plainIdx_back hge
              obtain ⟨m', rfl, hm, ha⟩ := whole_back hw
              rw [← hk] at hrow hlt hge
              refine ⟨⟨y, hy, fun e => absurd e c1, fun _ => ⟨by omega, hlt⟩, fun _ e => absurd c2 e⟩, ?_⟩
              unfold opParts
              rw [if_neg (by rw [hy]; exact fun e => c1 (Option.some.inj e)), if_pos (by rw [hy, c2]), hrow, ha]
      · rw [if_neg c2] at h
        match r, h with
        | [a], h =>
          have hw : wholeOf a = some k := h
          obtain ⟨m, rfl, hm, ha⟩ := whole_back hw
          refine ⟨⟨y, hy, fun e => absurd e c1, fun e => absurd e c2, fun _ _ => ⟨by omega, by omega⟩⟩, ?_⟩
          unfold opParts
          rw [if_neg (by rw [hy]; exact fun e => c1 (Option.some.inj e)), if_neg (by rw [hy]; exact fun e => c2 (Option.some.inj e)), ha]
theorem item_slice {row : Str} (h : 1 ≤ row.length) : Txt.item row 0 = Txt.slice row none (some 1) := by
  refine cs_inj ?_
  rw [cs_to (by omega) (by omega)]
  obtain ⟨⟨l⟩⟩ := row
  cases l with
  | nil => exact absurd h (by decide)
  | cons c r =>
    have e : Txt.item ⟨⟨c :: r⟩⟩ 0 = ⟨#[c]⟩ := by
      unfold Txt.item Txt.charAt
      rw [show seqIndex? 0 (Str.length ⟨⟨c :: r⟩⟩) = some 0 from seqIndex_zero (v := c) (l := r)]
      rfl
    rw [e]
    rfl
noncomputable def starStr (b : Bool) : Str := if b then Str.ofString "*" else Str.ofString " "
theorem cs_star (b : Bool) : ∃ c, cs (starStr b) = [c] ∧ (c = 42 ∨ c = 32) := by
  cases b
  · exact ⟨32, by decide +kernel, .inr rfl⟩
  · exact ⟨42, by decide +kernel, .inl rfl⟩
theorem line_cs (b : Bool) (i : Nat) {x : Str} {k : Int} (h : Written x k) : cs (lineText b i x k) = cs (starStr b) ++ gl 32 ((num (i : Int) :: x :: opParts x k).map cs) := by
  rw [← op_gl h]
  unfold lineText
  rw [cs_append, cs_append, cs_append, cs_append, cs_append, cs_append, cs_append, List.append_assoc, List.append_assoc, List.append_assoc]
  simp only [List.append_assoc]
  rfl
theorem row_of_line {i : Nat} (hi : i < 1000000000) (b : Bool) {x : Str} {k : Int} (h : Written x k) : readRow i (lineText b i x k) = some (b, x, k) := by
  have hcs := line_cs b i h
  obtain ⟨c, hc, hc2⟩ := cs_star b
  have hlen : 1 ≤ (lineText b i x k).length := by rw [← cs_length, hcs, hc]; simp
  have h1 : Txt.slice (lineText b i x k) none (some 1) = starStr b := by
    refine cs_inj ?_
    rw [cs_to (by omega) (by omega), hcs, hc]
    rfl
  have h2 : Txt.slice (lineText b i x k) (some 1) none = Str.join ⟨#[32]⟩ (num (i : Int) :: x :: opParts x k) := by
    refine cs_inj ?_
    rw [cs_from (by omega) (by omega), hcs, hc, cs_join]
    rfl
  have h3 : Txt.split (Txt.slice (lineText b i x k) (some 1) none) (Str.ofString " ") = num (i : Int) :: x :: opParts x k := by
    rw [h2, sp_is]
    refine split_glue (by simp) fun p hp hm => ?_
    rcases List.mem_cons.mp hp with rfl | hp
    · have := num_plain i _ hm; omega
    · have := parts_plain h p hp _ hm; omega
  unfold readRow
  rw [if_pos, h3]
  · show (if wholeOf (num (i : Int)) = some (i : Int) then _ else _) = _
    rw [if_pos (whole_num hi), readOp_parts h, item_slice hlen, h1]
    show some (starStr b == Str.ofString "*", x, k) = _
    have : (starStr b == Str.ofString "*") = b := by cases b <;> decide +kernel
    rw [this]
  · rw [h1]
    cases b <;> decide +kernel
theorem line_of_row {i : Nat} {row x : Str} {b : Bool} {k : Int} (h : readRow i row = some (b, x, k)) : row = lineText b i x k ∧ Written x k := by
  unfold readRow at h
  split at h
  · rename_i hstar
    have hlen := row_pos hstar
    split at h
    · rename_i p0 p1 r hsp
      split at h
      · rename_i hw
        cases ho : readOp (p1 :: r) with
        | none => rw [ho] at h; cases h
        | some k' =>
          rw [ho] at h
          have h' := Option.some.inj h
          simp only [Prod.mk.injEq] at h'
          obtain ⟨hb, rfl, rfl⟩ := h'
          obtain ⟨hW, hr⟩ := readOp_back ho
          refine ⟨?_, hW⟩
          obtain ⟨m, hm, _, hp0⟩ := whole_back hw
          have hmi : (m : Int) = (i : Int) := hm.symm
          rw [hmi] at hp0
          refine cs_inj ?_
          rw [line_cs b i hW]
          have e1 : Txt.slice row none (some 1) = starStr b := by
            rw [item_slice hlen] at hb
            obtain ⟨a, ha, hab⟩ := List.any_eq_true.mp hstar
            have hab := eq_of_beq hab
            rw [← hab] at hb ⊢
            simp only [List.mem_cons, List.not_mem_nil, or_false] at ha
            rcases ha with rfl | rfl
            · have : b = true := by rw [← hb]; decide +kernel
              rw [this]; rfl
            · have : b = false := by rw [← hb]; decide +kernel
              rw [this]; rfl
          have e2 : cs (Txt.slice row (some 1) none) = gl 32 ((num (i : Int) :: p1 :: opParts p1 k').map cs) := by
            have := StrLaws.join_split (Txt.slice row (some 1) none) (Str.ofString " ")
            rw [hsp, sp_is] at this
            rw [← this, cs_join, hp0, hr]
          rw [← e1, ← e2, cs_to (by omega) (by omega), cs_from (by omega) (by omega)]
          exact (List.take_append_drop _ _).symm
      · cases h
    · cases h
  · cases h


def AllWritten (c : List (Str × Int)) : Prop := c.length ≤ 60 ∧ ∀ i ∈ c, Written i.1 i.2
theorem cs_join0 : ∀ ps : List Str, cs (Str.join (Str.ofString "") ps) = (ps.map cs).flatten
  | [] => rfl
  | [a] => by simp [Str.join]
  | a :: b :: r => by
    show cs (a ++ Str.ofString "" ++ Str.join (Str.ofString "") (b :: r)) = _
    rw [cs_append, cs_append, cs_join0 (b :: r), show cs (Str.ofString "") = [] by decide +kernel, List.append_nil]
    rfl
theorem gl_ends (c : Nat) : ∀ ls : List (List Nat), gl c (ls ++ [[]]) = (ls.map (· ++ [c])).flatten
  | [] => rfl
  | a :: r => by
    rw [List.cons_append, gl_cons c a (by simp), gl_ends c r]
    simp
theorem code_join (c : List (Str × Int)) : codeText c = Str.join ⟨#[10]⟩ (linesOf c ++ [Str.ofString ""]) := by
  refine cs_inj ?_
  unfold codeText
  show cs (PySem.Builtin.Str.glued (Str.ofString "") _) = _
  rw [StrLaws.glued_eq_join, cs_join0, cs_join, List.map_append, List.map_map, List.map_cons, List.map_nil, show cs (Str.ofString "") = [] by decide +kernel, gl_ends, List.map_map]
  congr 1
  refine List.map_congr_left fun x _ => ?_
  show cs (x ++ Str.ofString "\n") = cs x ++ [10]
  rw [cs_append, nl_is]
theorem line_chars {b : Bool} {i : Nat} {x : Str} {k : Int} (h : Written x k) : ∀ a ∈ cs (lineText b i x k), 32 ≤ a ∧ a < 128 := by
  intro a ha
  rw [line_cs b i h] at ha
  rcases List.mem_append.mp ha with ha | ha
  · obtain ⟨c, hc, hc2⟩ := cs_star b
    rw [hc] at ha
    have := List.mem_singleton.mp ha
    omega
  · rcases mem_gl ha with rfl | ⟨p, hp, hap⟩
    · omega
    · obtain ⟨q, hq, rfl⟩ := List.mem_map.mp hp
      rcases List.mem_cons.mp hq with rfl | hq
      · have := num_plain i a hap; omega
      · have := parts_plain h q hq a hap; omega
theorem lines_get {c : List (Str × Int)} {i : Nat} {x : Str} {k : Int} (h : c[i]? = some (x, k)) : (linesOf c)[i]? = some (lineText (starred c i) i x k) := by
  unfold linesOf
  rw [List.getElem?_mapIdx, h]
  rfl
theorem lines_length (c : List (Str × Int)) : (linesOf c).length = c.length := by simp [linesOf]
theorem lines_chars {c : List (Str × Int)} (h : AllWritten c) : ∀ l ∈ linesOf c, ∀ a ∈ cs l, 32 ≤ a ∧ a < 128 := by
  intro l hl
  obtain ⟨i, hi⟩ := List.getElem?_of_mem hl
  have hic : i < c.length := by rw [← lines_length]; exact (List.getElem?_eq_some_iff.mp hi).1
  have hc := List.getElem?_eq_getElem hic
  rw [lines_get (x := c[i].1) (k := c[i].2) hc] at hi
  cases hi
  exact line_chars (h.2 _ (List.getElem_mem hic))
theorem split_code {c : List (Str × Int)} (h : AllWritten c) : Txt.split (codeText c) (Str.ofString "\n") = linesOf c ++ [Str.ofString ""] := by
  rw [code_join, nl_is]
  refine split_glue (by simp) fun p hp hm => ?_
  rcases List.mem_append.mp hp with hp | hp
  · have := lines_chars h p hp _ hm; omega
  · rw [List.mem_singleton.mp hp, show cs (Str.ofString "") = [] by decide +kernel] at hm
    cases hm
theorem parses_back {t : Str} {rs : List (Bool × Str × Int)} (h : Parses t rs) : t = codeText (rs.map (·.2)) := by
  obtain ⟨yi, h1, h2, h3, h4⟩ := h
  have hl : yi = linesOf (rs.map (·.2)) := by
    refine List.ext_getElem? fun j => ?_
    cases q : rs[j]? with
    | none =>
      have := List.getElem?_eq_none_iff.mp q
      rw [List.getElem?_eq_none (by omega), List.getElem?_eq_none (by rw [lines_length, List.length_map]; omega)]
    | some r =>
      obtain ⟨b, x, k⟩ := r
      obtain ⟨row, e1, e2⟩ := h3 j _ q
      obtain ⟨hrow, _⟩ := line_of_row e2
      have hc : (rs.map (·.2))[j]? = some (x, k) := by rw [List.getElem?_map, q]; rfl
      rw [e1, lines_get hc, hrow, h4 j b x k q]
  have := StrLaws.join_split t (Str.ofString "\n")
  rw [h1, hl, nl_is, ← code_join] at this
  exact this.symm
noncomputable def starsRead (c : List (Str × Int)) : List (Bool × Str × Int) := c.mapIdx fun i p => (starred c i, p)
theorem starsRead_snd (c : List (Str × Int)) : (starsRead c).map (·.2) = c := by
  refine List.ext_getElem? fun j => ?_
  unfold starsRead
  rw [List.getElem?_map, List.getElem?_mapIdx]
  cases c[j]? <;> rfl
theorem parses_code {c : List (Str × Int)} (h : AllWritten c) : Parses (codeText c) (starsRead c) := by
  refine ⟨linesOf c, split_code h, by simp [starsRead, linesOf], ?_, ?_⟩
  · intro j r hj
    unfold starsRead at hj
    rw [List.getElem?_mapIdx] at hj
    cases hc : c[j]? with
    | none => rw [hc] at hj; cases hj
    | some p =>
      rw [hc] at hj
      cases hj
      have hjl := (List.getElem?_eq_some_iff.mp hc).1
      have hw := h.2 p (List.mem_of_getElem? hc)
      exact ⟨_, lines_get hc, row_of_line (by have := h.1; omega) _ hw⟩
  · intro j b x k hj
    rw [starsRead_snd]
    unfold starsRead at hj
    rw [List.getElem?_mapIdx] at hj
    cases hc : c[j]? with
    | none => rw [hc] at hj; cases hj
    | some p =>
      rw [hc] at hj
      cases hj
      rfl
theorem parses_unique {t : Str} {rs rs' : List (Bool × Str × Int)} (h : Parses t rs) (h' : Parses t rs') : rs = rs' := by
  obtain ⟨yi, h1, h2, h3, _⟩ := h
  obtain ⟨yi', g1, g2, g3, _⟩ := h'
  rw [h1] at g1
  obtain ⟨e, _⟩ := List.append_inj' g1 rfl
  rw [← e] at g2 g3
  exact rows_unique h3 g3 (by omega)
/-- what is read of a code's own text is that code -/
theorem parses_own {c : List (Str × Int)} {rs : List (Bool × Str × Int)} (h : AllWritten c) (hp : Parses (codeText c) rs) : rs.map (·.2) = c := by
  rw [parses_unique hp (parses_code h), starsRead_snd]
/-- what is read of another text is another code -/
theorem parses_other {c : List (Str × Int)} {y : Str} {rs : List (Bool × Str × Int)} (hy : y ≠ codeText c) (hp : Parses y rs) : rs.map (·.2) ≠ c := fun e => hy (e ▸ parses_back hp)

theorem code_chars {c : List (Str × Int)} (h : AllWritten c) : ∀ a ∈ cs (codeText c), a < 128 := by
  intro a ha
  rw [code_join, cs_join] at ha
  rcases mem_gl ha with rfl | ⟨p, hp, hap⟩
  · omega
  · obtain ⟨q, hq, rfl⟩ := List.mem_map.mp hp
    rcases List.mem_append.mp hq with hq | hq
    · exact (lines_chars h q hq a hap).2
    · rw [List.mem_singleton.mp hq, show cs (Str.ofString "") = [] by decide +kernel] at hap
      cases hap
theorem strOk_small {x : Str} (h : ∀ a ∈ cs x, a < 1114112) : PyData.strOk x = true := by
  unfold PyData.strOk
  rw [← Array.all_toList]
  exact List.all_eq_true.mpr fun a ha => by simpa using h a ha
theorem code_ok {c : List (Str × Int)} (h : AllWritten c) : PyData.strOk (codeText c) = true := strOk_small fun a ha => by have := code_chars h a ha; omega
theorem written_good {c : List (Str × Int)} (h : AllWritten c) : CodeGood c := by
  refine ⟨h.1, fun i hi => ?_⟩
  obtain ⟨y, hy, h1, h2, h3⟩ := h.2 i hi
  refine ⟨y, hy, ?_, ?_, h2⟩
  · by_cases c1 : y = sNONE
    · rw [h1 c1]; decide
    · by_cases c2 : y = sPLAIN
      · have := h2 c2; omega
      · have := h3 c1 c2; omega
  · by_cases c1 : y = sNONE
    · rw [h1 c1]; decide
    · by_cases c2 : y = sPLAIN
      · have := h2 c2; omega
      · have := h3 c1 c2; omega
theorem code_length {c : List (Str × Int)} (h : AllWritten c) : (codeText c).length ≤ 201 * c.length := by
  rw [← cs_length]
  unfold codeText
  show (cs (PySem.Builtin.Str.glued (Str.ofString "") _)).length ≤ _
  rw [StrLaws.glued_eq_join, cs_join0, List.length_flatten, List.map_map, List.map_map]
  have hs := lines_short (written_good h)
  have hl := lines_length c
  rw [← hl]
  generalize linesOf c = ls at hs
  clear hl
  induction ls with
  | nil => simp
  | cons a r ih =>
    have h1 := ih fun x hx => hs x (.tail _ hx)
    have h2 := hs a (.head _)
    rw [List.map_cons, List.sum_cons, List.length_cons]
    have h3 : ((List.length ∘ cs) ∘ fun x => x ++ Str.ofString "\n") a = a.length + 1 := by
      show (cs (a ++ Str.ofString "\n")).length = _
      rw [cs_length, Str.length_append, show (Str.ofString "\n").length = 1 by decide]
    rw [h3]
    omega
theorem code_digit {c : List (Str × Int)} (h : AllWritten c) (h1 : 1 ≤ c.length) : ∃ (i a : Nat), (cs (codeText c))[i]? = some a ∧ 48 ≤ a ∧ a ≤ 57 := by
  obtain ⟨⟨x, k⟩, hp⟩ : ∃ p, c[0]? = some p := ⟨_, List.getElem?_eq_getElem (by omega)⟩
  have hw := h.2 _ (List.mem_of_getElem? hp)
  dsimp only at hw
  have hl := lines_get hp
  have hm : (48 : Nat) ∈ cs (codeText c) := by
    rw [code_join, cs_join]
    have h0 : (48 : Nat) ∈ cs (lineText (starred c 0) 0 x k) := by
      rw [line_cs _ 0 hw]
      refine List.mem_append_right _ ?_
      rw [List.map_cons, gl_cons 32 _ (by simp)]
      refine List.mem_append_left _ ?_
      rw [num_zero]
      decide
    have : ∀ (ps : List (List Nat)), ∀ p ∈ ps, ∀ a ∈ p, a ∈ gl 10 ps := by
      intro ps
      induction ps with
      | nil => intro p hp; cases hp
      | cons q r ih =>
        intro p hp a ha
        cases r with
        | nil => rw [List.mem_singleton.mp hp] at ha; exact ha
        | cons q' r' =>
          rw [gl_cons 10 q (by simp)]
          rcases List.mem_cons.mp hp with rfl | hp
          · exact List.mem_append_left _ ha
          · exact List.mem_append_right _ (.tail _ (ih p hp a ha))
    exact this _ _ (List.mem_map_of_mem (List.mem_append_left _ (List.mem_of_getElem? hl))) _ h0
  obtain ⟨i, hi⟩ := List.getElem?_of_mem hm
  exact ⟨i, 48, hi, by omega, by omega⟩
theorem ins_written {many : Int} {x : Str} {k : Int} (h : InsOk many (x, k)) (hm : many ≤ 1000) : Written x k := by
  rcases h with ⟨h, h1, h2⟩ | ⟨h, h1, h2⟩ | ⟨h, h1⟩ | ⟨h, h1, h2⟩
  · dsimp only at h h1 h2
    rcases h with rfl | rfl | rfl
    all_goals exact ⟨sPLACE, by decide +kernel, fun e => absurd e (by decide), fun e => absurd e (by decide), fun _ _ => ⟨h1, by omega⟩⟩
  · dsimp only at h h1 h2
    subst h
    exact ⟨sPLAIN, by decide +kernel, fun e => absurd e (by decide), fun _ => ⟨h1, h2⟩, fun _ e => absurd rfl e⟩
  · dsimp only at h h1
    rcases h with rfl | rfl
    all_goals exact ⟨sNONE, by decide +kernel, fun _ => h1, fun e => absurd e (by decide), fun e _ => absurd rfl e⟩
  · dsimp only at h h1 h2
    rcases h with rfl | rfl | rfl
    · exact ⟨sCONSTANT, by decide +kernel, fun e => absurd e (by decide), fun e => absurd e (by decide), fun _ _ => ⟨h1, by omega⟩⟩
    · exact ⟨sSYMBOL, by decide +kernel, fun e => absurd e (by decide), fun e => absurd e (by decide), fun _ _ => ⟨h1, by omega⟩⟩
    · exact ⟨sCOUNT, by decide +kernel, fun e => absurd e (by decide), fun e => absurd e (by decide), fun _ _ => ⟨h1, by omega⟩⟩
theorem ins_jump {many : Int} {x : Str} {k : Int} (h : InsOk many (x, k)) : isJump x = (x == Str.ofString "goto" || (x == Str.ofString "gotoifnil" || x == Str.ofString "pushcatch")) := by
  rcases h with ⟨h, _⟩ | ⟨h, _⟩ | ⟨h, _⟩ | ⟨h, _⟩
  · rcases h with h | h | h <;> (dsimp only at h; subst h; decide +kernel)
  · dsimp only at h; subst h; decide +kernel
  · rcases h with h | h <;> (dsimp only at h; subst h; decide +kernel)
  · rcases h with h | h | h <;> (dsimp only at h; subst h; decide +kernel)


def Spoilt (x y : Str) : Prop := y ≠ x ∧ y.length ≤ 10000 ∧ PyData.strOk y = true ∧ (Txt.split y (Str.ofString "\n")).length ≤ 60
theorem cnt_nonneg (c : Nat) : ∀ l : List Nat, 0 ≤ PyProof.Rows.cnt c l
  | [] => Int.le_refl _
  | n :: r => by
    have := cnt_nonneg c r
    rw [cnt_cons]
    split <;> omega
theorem strOk_all {x : Str} (h : PyData.strOk x = true) : ∀ a ∈ cs x, a < 1114112 := by
  unfold PyData.strOk at h
  rw [← Array.all_toList] at h
  intro a ha
  have := List.all_eq_true.mp h a ha
  simpa using this
theorem lines_le {x y : Str} (h : PyProof.Rows.cnt 10 (cs y) ≤ PyProof.Rows.cnt 10 (cs x)) (hx : (Txt.split x (Str.ofString "\n")).length ≤ 60) : (Txt.split y (Str.ofString "\n")).length ≤ 60 := by
  rw [nl_is] at hx ⊢
  have h1 : ((Txt.split x ⟨#[10]⟩).length : Int) = 1 + PyProof.Rows.cnt 10 (cs x) := split_len x 10
  have h2 : ((Txt.split y ⟨#[10]⟩).length : Int) = 1 + PyProof.Rows.cnt 10 (cs y) := split_len y 10
  omega
theorem spoilt_cut {x : Str} {k : Int} (h0 : 0 ≤ k) (h1 : k < (x.length : Int)) (hx : x.length ≤ 9000) (hxo : PyData.strOk x = true) (hxr : (Txt.split x (Str.ofString "\n")).length ≤ 60) : Spoilt x (Txt.slice x none (some k)) := by
  have e := cs_to h0 (Int.le_of_lt h1)
  have hl : (Txt.slice x none (some k)).length = k.toNat := by
    rw [← cs_length, e, List.length_take, cs_length]
    omega
  refine ⟨fun q => ?_, by omega, strOk_slice hxo, lines_le ?_ hxr⟩
  · rw [q] at hl; omega
  · rw [e]
    have h2 : PyProof.Rows.cnt 10 (cs x) = PyProof.Rows.cnt 10 ((cs x).take k.toNat) + PyProof.Rows.cnt 10 ((cs x).drop k.toNat) := by rw [← PyProof.Rows.cnt_append, List.take_append_drop]
    have := cnt_nonneg 10 ((cs x).drop k.toNat)
    omega
theorem sum_without (ls : List Str) (g : Nat) (h : g < ls.length) : ((ls.take g ++ ls.drop (g + 1)).map (·.length)).sum ≤ (ls.map (·.length)).sum ∧ (ls.take g ++ ls.drop (g + 1)).length + 1 = ls.length := by
  have e : ls = ls.take g ++ ls[g] :: ls.drop (g + 1) := by
    rw [List.getElem_cons_drop, List.take_append_drop]
  constructor
  · conv => rhs; rw [e]
    simp only [List.map_append, List.sum_append, List.map_cons, List.sum_cons]
    omega
  · simp only [List.length_append, List.length_take, List.length_drop]
    omega
theorem spoilt_line {x : Str} {g : Nat} (hg : g + 1 < (Txt.split x (Str.ofString "\n")).length) (hx : x.length ≤ 9000) (hxo : PyData.strOk x = true) (hxr : (Txt.split x (Str.ofString "\n")).length ≤ 60) :
    Spoilt x (Txt.join (Str.ofString "\n") ((Txt.split x (Str.ofString "\n")).take g ++ (Txt.split x (Str.ofString "\n")).drop (g + 1))) := by
  have hw := split_weight x (Str.ofString "\n") (by decide)
  have hfree : ∀ p ∈ Txt.split x (Str.ofString "\n"), 10 ∉ cs p := by
    rw [nl_is]; exact StrLaws.split_free x 10
  have hch : ∀ p ∈ Txt.split x (Str.ofString "\n"), ∀ a ∈ cs p, a < 1114112 := fun p hp a ha => strOk_all hxo a (split_chars hp a ha)
  obtain ⟨hs, hl⟩ := sum_without (Txt.split x (Str.ofString "\n")) g (by omega)
  have hsub : ∀ p ∈ (Txt.split x (Str.ofString "\n")).take g ++ (Txt.split x (Str.ofString "\n")).drop (g + 1), p ∈ Txt.split x (Str.ofString "\n") := fun p hp =>
    (List.mem_append.mp hp).elim (fun h => List.mem_of_mem_take h) (fun h => List.mem_of_mem_drop h)
  generalize hP : (Txt.split x (Str.ofString "\n")).take g ++ (Txt.split x (Str.ofString "\n")).drop (g + 1) = P at hs hl hsub
  have hj : Txt.join (Str.ofString "\n") P = Str.join ⟨#[10]⟩ P := by
    show PySem.Builtin.Str.glued _ _ = _
    rw [StrLaws.glued_eq_join, nl_is]
  have hP0 : P ≠ [] := by
    intro e
    rw [e] at hl
    simp at hl
    omega
  have hsp : Txt.split (Txt.join (Str.ofString "\n") P) (Str.ofString "\n") = P := by
    rw [hj, nl_is]
    exact split_glue hP0 fun p hp => hfree p (hsub p hp)
  refine ⟨fun q => ?_, ?_, ?_, ?_⟩
  · rw [q] at hsp
    rw [hsp] at hl
    omega
  · rw [hj]
    have := StrLaws.join_length_le ⟨#[10]⟩ P
    have e1 : (⟨#[10]⟩ : Str).length = 1 := rfl
    rw [e1] at this
    omega
  · refine strOk_small fun a ha => ?_
    rw [hj, cs_join] at ha
    rcases mem_gl ha with rfl | ⟨p, hp, hap⟩
    · omega
    · obtain ⟨q, hq, rfl⟩ := List.mem_map.mp hp
      exact hch q (hsub q hq) a hap
  · rw [hsp]; omega
theorem spoilt_line' {x : Str} {k : Int} (h0 : 0 ≤ k) (h1 : k + 1 < ((Txt.split x (Str.ofString "\n")).length : Int)) (hx : x.length ≤ 9000) (hxo : PyData.strOk x = true) (hxr : (Txt.split x (Str.ofString "\n")).length ≤ 60) :
    Spoilt x (Txt.join ⟨#[Int.toNat 10]⟩ ((Txt.split x (Str.ofString "\n")).take k.toNat ++ (Txt.split x (Str.ofString "\n")).drop (k + 1).toNat)) := by
  have := spoilt_line (x := x) (g := k.toNat) (by omega) hx hxo hxr
  rw [show (k + 1).toNat = k.toNat + 1 by omega]
  rw [show (⟨#[Int.toNat 10]⟩ : Str) = Str.ofString "\n" by decide +kernel]
  exact this
theorem cut_fits {x : Str} {k : Int} (h0 : 0 ≤ k) (hx : x.length ≤ 9000) :
    (((Txt.split x (Str.ofString "\n")).take k.toNat ++ (Txt.split x (Str.ofString "\n")).drop (k + 1).toNat).map (·.length)).sum + ((Txt.split x (Str.ofString "\n")).take k.toNat ++ (Txt.split x (Str.ofString "\n")).drop (k + 1).toNat).length * (⟨#[Int.toNat 10]⟩ : Str).length ≤ 16777216 := by
  have hw := split_weight x (Str.ofString "\n") (by decide)
  have hc : ∀ (ls : List Str) (i j : Nat), i ≤ j → ((ls.take i ++ ls.drop j).map (·.length)).sum ≤ (ls.map (·.length)).sum ∧ (ls.take i ++ ls.drop j).length ≤ ls.length := by
    intro ls i j hij
    have e : (ls.map (·.length)).sum = ((ls.take j).map (·.length)).sum + ((ls.drop j).map (·.length)).sum := by
      rw [← List.sum_append, ← List.map_append, List.take_append_drop]
    have e2 : ((ls.take j).map (·.length)).sum = ((ls.take i).map (·.length)).sum + (((ls.take j).drop i).map (·.length)).sum := by
      have : ls.take i = (ls.take j).take i := by rw [List.take_take, Nat.min_eq_left hij]
      rw [this, ← List.sum_append, ← List.map_append, List.take_append_drop]
    constructor
    · rw [List.map_append, List.sum_append]; omega
    · rw [List.length_append, List.length_take, List.length_drop]; omega
  obtain ⟨c1, c2⟩ := hc (Txt.split x (Str.ofString "\n")) k.toNat (k + 1).toNat (by omega)
  have e1 : (⟨#[Int.toNat 10]⟩ : Str).length = 1 := rfl
  rw [e1]
  omega
theorem strs_append {vs ws : List Value} {ys zs : List Str} (h : StrsAre vs ys) (h' : StrsAre ws zs) : StrsAre (vs ++ ws) (ys ++ zs) := by
  induction h with
  | nil => exact h'
  | cons y u _ ih => exact .cons y u ih
theorem strs_take {vs : List Value} {ys : List Str} (h : StrsAre vs ys) : ∀ k, StrsAre (vs.take k) (ys.take k) := by
  induction h with
  | nil => intro k; rw [List.take_nil, List.take_nil]; exact .nil
  | cons y u _ ih =>
    intro k
    cases k with
    | zero => exact .nil
    | succ k => exact .cons y u (ih k)
theorem strs_drop {vs : List Value} {ys : List Str} (h : StrsAre vs ys) : ∀ k, StrsAre (vs.drop k) (ys.drop k) := by
  induction h with
  | nil => intro k; rw [List.drop_nil, List.drop_nil]; exact .nil
  | cons y u h ih =>
    intro k
    cases k with
    | zero => exact .cons y u h
    | succ k => exact ih k
theorem cs_digit : ∀ d : Nat, d < 10 → cs (num (d : Int)) = [48 + d] := by decide +kernel
theorem spoilt_digit {x : Str} {a d r : Nat} {f : Int} (ha : (cs x)[a]? = some (48 + d)) (hd : d < 10) (hr : r < 9) (hf : f = (((d : Int) + 1 + (r : Int)).fmod 10)) (hx : x.length ≤ 9000) (hxo : PyData.strOk x = true) (hxr : (Txt.split x (Str.ofString "\n")).length ≤ 60) :
    Spoilt x (Txt.slice x none (some (a : Int)) ++ Str.ofString (toString f) ++ Txt.slice x (some ((a : Int) + 1)) none) := by
  have hal : a < (cs x).length := (List.getElem?_eq_some_iff.mp ha).1
  rw [cs_length] at hal
  obtain ⟨e, he, he10, hed⟩ : ∃ e : Nat, f = (e : Int) ∧ e < 10 ∧ e ≠ d := by
    rw [Int.fmod_eq_emod_of_nonneg _ (by omega)] at hf
    exact ⟨((d + 1 + r) % 10 : Nat), by omega, by omega, by omega⟩
  subst he
  have ecs : cs (Txt.slice x none (some (a : Int)) ++ Str.ofString (toString (e : Int)) ++ Txt.slice x (some ((a : Int) + 1)) none) = (cs x).take a ++ (48 + e) :: (cs x).drop (a + 1) := by
    rw [cs_append, cs_append, cs_to (by omega) (by omega), cs_from (by omega) (by omega), show cs (Str.ofString (toString (e : Int))) = [48 + e] from cs_digit e he10]
    rw [show ((a : Int) + 1).toNat = a + 1 by omega, Int.toNat_natCast, List.append_assoc]
    rfl
  have exs : cs x = (cs x).take a ++ (48 + d) :: (cs x).drop (a + 1) := by
    obtain ⟨h1, h2⟩ := List.getElem?_eq_some_iff.mp ha
    rw [← h2, List.getElem_cons_drop, List.take_append_drop]
  have hlen : (Txt.slice x none (some (a : Int)) ++ Str.ofString (toString (e : Int)) ++ Txt.slice x (some ((a : Int) + 1)) none).length = x.length := by
    rw [← cs_length, ecs, ← cs_length x]
    conv => rhs; rw [exs]
    simp only [List.length_append, List.length_cons]
  refine ⟨fun q => ?_, by omega, strOk_small fun b hb => ?_, lines_le ?_ hxr⟩
  · have e1 := congrArg cs q
    rw [ecs] at e1
    have e2 : (cs x)[a]? = some (48 + e) := by
      rw [← e1, List.getElem?_append_right (by rw [List.length_take, cs_length]; omega)]
      have : a - ((cs x).take a).length = 0 := by rw [List.length_take, cs_length]; omega
      rw [this]
      rfl
    rw [ha] at e2
    have := Option.some.inj e2
    omega
  · rw [ecs] at hb
    rcases List.mem_append.mp hb with hb | hb
    · exact strOk_all hxo b (List.mem_of_mem_take hb)
    · rcases List.mem_cons.mp hb with rfl | hb
      · omega
      · exact strOk_all hxo b (List.mem_of_mem_drop hb)
  · rw [ecs]
    conv => rhs; rw [exs]
    rw [PyProof.Rows.cnt_append, PyProof.Rows.cnt_append, PyProof.Rows.cnt_cons, PyProof.Rows.cnt_cons, if_neg (by omega), if_neg (by omega)]
    omega
theorem spoilt_digit' {x y : Str} {q c : Nat} {k : Int} (hy : y = Str.ofString (toString ((((c - 48 : Nat) : Int) + 1 + k).fmod 10))) (hc : (cs x)[q]? = some c) (h : 48 ≤ c ∧ c ≤ 57) (h0 : 0 ≤ k) (h1 : k < 9)
    (hx : x.length ≤ 9000) (hxo : PyData.strOk x = true) (hxr : (Txt.split x (Str.ofString "\n")).length ≤ 60) : Spoilt x (Txt.slice x none (some (q : Int)) ++ y ++ Txt.slice x (some ((q : Int) + 1)) none) := by
  rw [hy]
  obtain ⟨r, rfl⟩ := Int.eq_ofNat_of_zero_le h0
  exact spoilt_digit (d := c - 48) (r := r) (by rw [hc]; congr 1; omega) (by omega) (by omega) rfl hx hxo hxr
theorem item_at {x : Str} {q : Nat} (h : q < x.length) : ∃ c, (cs x)[q]? = some c ∧ Txt.item x (q : Int) = ⟨#[c]⟩ := by
  have hl : q < (cs x).length := by rw [cs_length]; exact h
  refine ⟨(cs x)[q], List.getElem?_eq_getElem hl, ?_⟩
  unfold Txt.item Txt.charAt
  have e : seqIndex? (q : Int) x.length = some q := by
    unfold seqIndex?
    simp only [show ¬ ((q : Int) < 0) by omega, if_false]
    rw [if_pos (by simp only [Bool.and_eq_true, decide_eq_true_eq]; omega)]
    rfl
  rw [e, Option.bind_some]
  have : x.cps[q]? = some (cs x)[q] := by
    rw [← Array.getElem?_toList]
    exact List.getElem?_eq_getElem hl
  rw [this]
  rfl
theorem digit_text {c : Nat} (h : 48 ≤ c ∧ c ≤ 57) : PySem.intText? ⟨#[c]⟩ = some (((c - 48 : Nat) : Nat) : Int) := by
  have e : PySem.NumText.digitsVal (cs ⟨#[c]⟩) = c - 48 := by
    show 0 * 10 + (c - 48) = c - 48
    omega
  rw [← e]
  refine PySem.intText_digits (fun a ha => ?_) (by simp) (by show 1 ≤ 4300; decide)
  have : a = c := by simpa using ha
  rw [this]; exact h
/-- how far the place q is from i0, going on and round -/
noncomputable def far (i0 len q : Nat) : Nat := if q ≤ i0 then i0 - q else i0 + len - q
theorem far_less {i0 len q : Nat} (h : i0 < len) (hq : q < len) (hne : q ≠ i0) : ∃ q' : Nat, ((q : Int) + 1).fmod (len : Int) = (q' : Int) ∧ q' < len ∧ far i0 len q' < far i0 len q := by
  unfold far
  rw [Int.fmod_eq_emod_of_nonneg _ (by omega)]
  by_cases hl : q + 1 = len
  · refine ⟨0, ?_, by omega, ?_⟩
    · have : (q : Int) + 1 = (len : Int) := by omega
      rw [this, Int.emod_self]; rfl
    · split <;> split <;> omega
  · refine ⟨q + 1, ?_, by omega, ?_⟩
    · rw [Int.emod_eq_of_lt (by omega) (by omega)]; rfl
    · split <;> split <;> omega


theorem pick_upto {vs : List Value} {k : Int} (h0 : 0 ≤ k) (h1 : k ≤ (vs.length : Int)) : (slicePick vs.toArray none (some k) none).toList = vs.take k.toNat := by
  have e : sliceBounds none (some k) none vs.toArray.size = (((0 : Nat) : Int), ((k.toNat : Nat) : Int), 1) := by
    rw [List.size_toArray]
    unfold sliceBounds
    simp
    omega
  rw [kmk_pick_nat _ e]
  simp
theorem pick_from {vs : List Value} {k : Int} (h0 : 0 ≤ k) (h1 : k ≤ (vs.length : Int)) : (slicePick vs.toArray (some k) none none).toList = vs.drop k.toNat := by
  have e : sliceBounds (some k) none none vs.toArray.size = (((k.toNat : Nat) : Int), ((vs.length : Nat) : Int), 1) := by
    rw [List.size_toArray]
    unfold sliceBounds
    simp
    omega
  rw [kmk_pick_nat _ e]
  show (List.take (vs.length - k.toNat) (vs.toArray.toList.drop k.toNat)).toArray.toList = _
  rw [List.take_of_length_le (by simp)]
theorem fr_name {g h : Heap} {L : Addr} {m : Str → Option Value} (F : Fr g L h m) : ∃ m', m' = m ∧ Fr g L h m' := ⟨m, rfl, F⟩
theorem len_any {prog : Program} {w : World} {A : Around} {E : Value → Shared → Prop} {s : Shared} {l : Addr} {tl : List Value} {Q : Value → Shared → Prop} (hl : s.heap.IsList l tl.toArray) (hz : tl.length ≤ 100000)
    (h : Q (.int (tl.length : Int) (s.toks + 1)) { s with toks := s.toks + 1 + 1 }) : wpAny (model prog w) A (call (.builtin "len") [.ref l]) Q E s := by
  have e : (tl.toArray.size : Int) = (tl.length : Int) := by rw [List.size_toArray]
  refine call_len_list hl (by rw [e]; omega) ?_
  rw [e]
  exact h
theorem str_fmod10 {prog : Program} {w : World} {A : Around} {E : Value → Shared → Prop} {s : Shared} {a : Int} {t : Tok} {Q : Value → Shared → Prop} (h : ∀ y, y = Str.ofString (toString (a.fmod 10)) → y.length ≤ 10 → Q (.str y s.toks) { s with toks := s.toks + 1 }) :
    wpAny (model prog w) A (call (.type "str") [.int (a.fmod 10) t]) Q E s := by
  have h0 := Int.fmod_nonneg_of_pos a (show (0 : Int) < 10 by omega)
  have h1 := Int.fmod_lt_of_pos a (show (0 : Int) < 10 by omega)
  exact str_of_int_fit (N := 10) (by rw [if_neg (by omega)]; exact h1) (by decide) fun _ => h _ rfl (int_short (by omega) (by omega))
section
local macro_rules | `(tactic| walk_at "call builtin:len") => `(tactic| (k_here; (with_reducible show wpAny _ _ (call (Value.builtin "len") [Value.ref _]) _ _ _); k_dflt (refine len_any (by exact News.isList (by k_asm) (by k_mem)) (by assumption) ?_)))
local macro_rules | `(tactic| walk_at "subscriptTail Name Slice ref ref") => `(tactic| (k_here; (with_reducible show wpAny _ _ (subscriptTail (PySem.Expr.Name (Str.ofString "lines") _) (PySem.Expr.Slice _ _ none _) (Value.ref _) (Value.ref _)) _ _ _); k_dflt (refine kmk_slice_lit (by k_asm) (by k_asm) (by exact News.isList (by k_asm) (by k_mem)) (by kmk_part) (by kmk_part) (by first | exact pick_upto (by omega) (by omega) | exact pick_from (by omega) (by omega)) ?_ (by with_unfolding_all rfl) (by kmk_pure) (by (rw [List.size_toArray, sizeLine_eq]; omega))); intro D' h' F' N' l1; (try k_lt l1)))
local macro_rules | `(tactic| walk_at "call builtin:str.join") => `(tactic| (refine Stop.out ?_))
local macro_rules | `(tactic| walk_at "binaryOp Add ref ref") => `(tactic| (refine Stop.out ?_))
local macro_rules | `(tactic| walk_at "call type:str") => `(tactic| (k_here; k_dflt (refine str_fmod10 ?_); intro y' hy' hl'))
local macro_rules | `(tactic| walk_at "exec While Compare cons nil") => `(tactic| (refine Stop.out ?_))
theorem spoilt_spec {prog : Program} {w : World} {dp un : Nat} {gd : Option (List Code)} {cn : Str} {cs : Scope} {a : Addr} {ccd : Value} {cl : List (Str × Addr)} {outer : List Env} {A₀ : Around} {base h₀ : Heap} {L : Addr} {m : Str → Option Value} {s : Shared} {Q E : Value → Shared → Prop} {loose : List Str} {mean : ExcName → Option Value} {mg mb : Str → Option Value}
  {p l : Addr} {at_ st : Int} {t u v : Tok} {n n' : Nat} {vs : List Value} {ns : List Int} {news : List (Addr × Obj)} {gf : Obj → List (Addr × Obj)} {x : Str}
  (B : Below A₀ base outer h₀) (F : Fr h₀ L s.heap m) (X : (Mine.heapK w.params).In h₀) (N : News h₀ L s.heap news) (T : Top Mine.hd.view_433 loose mean mg mb h₀) (hk : cs.kind = .function)
  (hd : dp + 20 < recursionLimit) (hu : un + 120 < cLine)
  (U : UpdF p (potObj l at_ st t u n) news gf) (hl : (l, listOf vs.toArray n') ∈ news) (hi : IntsAre vs ns) (hlen : ns.length ≤ 63) (h1 : 0 ≤ at_) (h2 : at_ ≤ 900000) (h3 : 0 ≤ st) (h4 : st ≤ 1000000)
  (hx : x.length ≤ 9000) (hxo : PyData.strOk x = true) (hxr : (Txt.split x (Str.ofString "\n")).length ≤ 60) (hx2 : 2 ≤ (Txt.split x (Str.ofString "\n")).length) (hxd : ∃ (i a : Nat), (Mine.cs x)[i]? = some a ∧ 48 ≤ a ∧ a ≤ 57)
  (ret : ∀ h' tk' y t', Spoilt x y → Kept [p] s.heap h' → Fr h₀ L h' m → Q (.str y t') { s with heap := h', toks := tk' }) :
  wpAny (model prog w) (ktrTop dp un gd cn cs L a ccd cl outer) (call (.ref 197) [.ref p, .str x v]) Q E s := by
  obtain ⟨pre, post, hnews, hgf, hpre, hpost⟩ := U.split
  have hpm : (p, potObj l at_ st t u n) ∈ news := by rw [hnews]; exact List.mem_append_right _ (.head _)
  have hpl : @Ne Nat p l := by
    intro e
    have e1 := (N _ hpm).1
    have e2 := (N _ hl).1
    dsimp only at e1 e2
    rw [e, e2] at e1
    exact int_ne_pot hi (Option.some.inj e1)
  have N2 : News h₀ L s.heap [(p, potObj l at_ st t u n), (l, listOf vs.toArray n')] := by
    intro q hq
    rcases List.mem_cons.mp hq with rfl | hq
    · exact N _ hpm
    · rw [List.mem_singleton.mp hq]; exact N _ hl
  have hx1 : 1 ≤ x.length := by
    obtain ⟨i, c, hc, _⟩ := hxd
    have := (List.getElem?_eq_some_iff.mp hc).1
    rw [cs_length] at this
    omega
  refine wpAny_call ?_
  k_dflt (refine' code_defM (binds := [(Str.ofString "pot", .ref p), (Str.ofString "text", .str x v)]) ?k1 ?k2 ?k3 ?k4 ?k5 ?kA ?kF ?kK ?k6 ?k7 ?k8 ?k9 ?kB ?_ ?c2 ?c3 ?c4 ?c5; (case kA => exact rfl); (case kF => exact rfl); (case kK => assumption); (case k1 => k_asm); (case k2 => k_asm); (case k3 => k_asm); (case k4 => exact N2); (case k5 => k_asm); (case k6 => k_is); (case k7 => k_is); (case k8 => k_room); (case k9 => exact BindsTo.of_eq rfl); (case c5 => decide); (case kB => exact locs rfl); (case c2 => exact rfl); (case c3 => exact rfl); (case c4 => exact rfl); k_whole)
  intro g L' h' tk hG hG' hL' FG' F' N' B' X' T'
  have fin := fun h' m' led (F' : Fr g L' h' m') (N' : News g L' h' led) o' (m1 : (p, o') ∈ led) (m2 : (l, listOf vs.toArray n') ∈ led) => pot_back F N U hl hpl hG F' N' m1 m2
  clear F N N2 B X T U hpm hl hnews hpre hpost hG' hgf
  (try dsimp only)
  k_steps
  refine Stop.of ?_
  k_dflt (refine dip_spec (by k_asm) (by k_asm) (by k_asm) (by k_asm) (by k_asm) (by first | exact rfl | assumption) (by (try dsimp only); omega) (by (try dsimp only); omega) (by k_updF) (by k_mem) (by assumption) (by assumption) (by omega) (by omega) (by omega) (by omega) (by omega) (by omega) ?_)
  intro h' tk' k' t' st' t1' t2' hk1' hk2' hs1' hs2' hK' F' N'
  (try dsimp only at N')
  (try dsimp only)
  (try k_fold)
  k_steps
  · refine Stop.of ?_
    k_dflt (refine dip_spec (by k_asm) (by k_asm) (by k_asm) (by k_asm) (by k_asm) (by first | exact rfl | assumption) (by (try dsimp only); omega) (by (try dsimp only); omega) (by k_updF) (by k_mem) (by assumption) (by assumption) (by omega) (by omega) (by omega) (by omega) (by omega) (by omega) ?_)
    intro h' tk' k' t' st' t1' t2' hk1' hk2' hs1' hs2' hK' F' N'
    (try dsimp only at N')
    (try dsimp only)
    (try k_fold)
    k_steps
    refine Stop.of (leaveK_ (by assumption) (by assumption) ?_)
    intro FF NN
    obtain ⟨q1, q2, q3⟩ := fin _ _ _ (by assumption) (by assumption) _ (.head _) (.tail _ (.head _))
    exact ret _ _ _ _ (spoilt_cut (by assumption) (by assumption) hx hxo hxr) q1 FF
  · refine Stop.of ?_
    refine split_made (y := ⟨#[Int.toNat 10]⟩) (by assumption) (by assumption) (by decide) ?_ (by rw [sizeLine_eq]; omega)
    intro D lv h₂ tk₂ hS F₂ N₂ l₂
    k_lt l₂
    have hS' : StrsAre lv (Txt.split x (Str.ofString "\n")) := by rw [nl_is]; exact hS
    have hlv := hS'.length
    have hl2 : 2 ≤ lv.length := by omega
    have hlz : lv.length ≤ 100000 := by omega
    have hkeep : Stop (StrsAre lv (Txt.split x (Str.ofString "\n"))) := hS'
    k_steps
    refine Stop.of ?_
    k_dflt (refine dip_spec (by k_asm) (by k_asm) (by k_asm) (by k_asm) (by k_asm) (by first | exact rfl | assumption) (by (try dsimp only); omega) (by (try dsimp only); omega) (by k_updF) (by k_mem) (by assumption) (by assumption) (by omega) (by omega) (by omega) (by omega) (by omega) (by omega) ?_)
    intro h' tk' k' t' st' t1' t2' hk1' hk2' hs1' hs2' hK' F' N'
    (try dsimp only at N')
    (try dsimp only)
    (try k_fold)
    k_steps
    refine Stop.of ?_
    refine add_lists (by assumption) (by assumption) (News.isList (by assumption) (.tail _ (.head _))) (News.isList (by assumption) (.head _)) ?_ (by simp only [List.size_toArray, List.length_take, List.length_drop, sizeLine_eq]; omega)
    intro h₄ F₄ N₄
    k_steps
    refine Stop.of (join_list (News.isList N₄ (.head _)) (strs_append (strs_take hS' _) (strs_drop hS' _)) ?_ (fun t' kk => ?_))
    · exact cut_fits (by assumption) hx
    · refine leaveK_ F₄ N₄ ?_
      intro FF NN
      obtain ⟨q1, q2, q3⟩ := fin _ _ _ F₄ N₄ _ (.tail _ (.tail _ (.tail _ (.tail _ (.head _))))) (.tail _ (.tail _ (.tail _ (.tail _ (.tail _ (.head _))))))
      exact ret _ _ _ _ (spoilt_line' (by assumption) (by omega) hx hxo hxr) q1 FF
  · refine Stop.of ?_
    k_dflt (refine dip_spec (by k_asm) (by k_asm) (by k_asm) (by k_asm) (by k_asm) (by first | exact rfl | assumption) (by (try dsimp only); omega) (by (try dsimp only); omega) (by k_updF) (by k_mem) (by assumption) (by assumption) (by omega) (by omega) (by omega) (by omega) (by omega) (by omega) ?_)
    intro h4' tk4 q4 qt4 st4 ta4 tb4 hq0 hq1 hs3 hs4 hK4 F' N'
    (try dsimp only at N')
    (try dsimp only)
    (try k_fold)
    k_steps
    rename_i h5' F9 N9
    obtain ⟨i0, a0, hi0, ha1, ha2⟩ := hxd
    have hi0l : i0 < x.length := by rw [← cs_length]; exact (List.getElem?_eq_some_iff.mp hi0).1
    obtain ⟨q0, rfl⟩ := Int.eq_ofNat_of_zero_le hq0
    obtain ⟨m9, hm9, F8⟩ := fr_name F9
    refine Stop.of ?_
    refine While_inv (n₀ := far i0 x.length q0) (fun nn m₁ news₁ => ∃ (q : Nat) (tq : Tok), q < x.length ∧ nn = far i0 x.length q ∧ news₁ = [(p, potObj l (at_ + 1 + 1) st4 ta4 tb4 n), (l, W.listOf vs.toArray n')] ∧ m₁ = fun z => if z = Str.ofString "at" then some (.int (q : Int) tq) else m9 z)
      F8 N9 ⟨q0, qt4, by omega, rfl, rfl, ?_⟩ ?_
    · funext z
      by_cases hz : z = Str.ofString "at"
      · rw [if_pos hz, hm9, hz]; rfl
      · rw [if_neg hz]
    · rintro n9 m₁ news₁ h₁ tk₁ F₁ N₁ ⟨q, tq, hql, hn9, rfl, rfl⟩
      simp only [hm9] at F₁
      clear F9 N9 F8
      obtain ⟨c9, hc9, hit⟩ := item_at hql
      k_steps
      · have hoc : (PySem.Builtin.Str.occurrences (Str.ofString "0123456789") (Txt.item x (q : Int)) 0 (Str.ofString "0123456789").length 1).isEmpty = true := by assumption
        have hno : ¬ (48 ≤ c9 ∧ c9 ≤ 57) := by
          have := digit_in c9
          rw [← hit, hoc] at this
          exact of_decide_eq_false this.symm
        have hne : q ≠ i0 := by
          intro e
          rw [e, hi0] at hc9
          have := Option.some.inj hc9
          omega
        obtain ⟨q', e1, e2, e3⟩ := far_less hi0l hql hne
        rename_i F7 N7
        refine WhileStep.intro F7 N7 (by rw [hn9]; exact e3) ⟨q', ?tq, e2, rfl, rfl, ?_⟩
        rotate_left
        funext z
        by_cases hz : z = Str.ofString "at"
        · show (if z = _ then _ else _) = _
          rw [if_pos hz, if_pos hz, e1]
        · show (if z = _ then _ else if z = _ then _ else if z = _ then _ else _) = _
          rw [if_neg hz, if_neg hz, if_neg hz, if_neg hz, hm9]
          show _ = (if z = _ then _ else _)
          rw [if_neg hz]
      · have hoc : (PySem.Builtin.Str.occurrences (Str.ofString "0123456789") (Txt.item x (q : Int)) 0 (Str.ofString "0123456789").length 1).isEmpty = false := by assumption
        have hyes : 48 ≤ c9 ∧ c9 ≤ 57 := by
          have := digit_in c9
          rw [← hit, hoc] at this
          exact of_decide_eq_true this.symm
        refine KIN.call_text (n := ((c9 - 48 : Nat) : Int)) (by rw [hit]; exact digit_text hyes) (by rw [hit]; show 1 ≤ 640; decide) ?_
        k_steps
        refine Stop.of ?_
        k_dflt (refine dip_spec (by k_asm) (by k_asm) (by k_asm) (by k_asm) (by k_asm) (by first | exact rfl | assumption) (by (try dsimp only); omega) (by (try dsimp only); omega) (by k_updF) (by k_mem) (by assumption) (by assumption) (by omega) (by omega) (by omega) (by omega) (by omega) (by omega) ?_)
        intro h' tk' k' t' st' t1' t2' hk1' hk2' hs1' hs2' hK' F' N'
        (try dsimp only at N')
        (try dsimp only)
        (try k_fold)
        k_steps
        refine Stop.of (leaveK_ (by assumption) (by assumption) ?_)
        intro FF NN
        obtain ⟨q1, q2, q3⟩ := fin _ _ _ (by assumption) (by assumption) _ (.head _) (.tail _ (.head _))
        exact ret _ _ _ _ (spoilt_digit' (by assumption) hc9 hyes (by assumption) (by assumption) hx hxo hxr) q1 FF
end


theorem two_news {h₀ h : Heap} {L : Addr} {news : List (Addr × Obj)} {q1 q2 : Addr × Obj} (m1 : h.get? q1.1 = some q1.2 ∧ q1.1 ≠ L ∧ h₀.get? q1.1 = none) (m2 : h.get? q2.1 = some q2.2 ∧ q2.1 ≠ L ∧ h₀.get? q2.1 = none) (N : News h₀ L h news) : News h₀ L h (q1 :: q2 :: news) := by
  intro q hq
  rcases List.mem_cons.mp hq with rfl | hq
  · exact m1
  · rcases List.mem_cons.mp hq with rfl | hq
    · exact m2
    · exact N q hq
theorem sum_fmod (l : List Int) : 0 ≤ (l.map fun k => k.fmod 1009).sum ∧ (l.map fun k => k.fmod 1009).sum ≤ 1008 * (l.length : Int) := by
  induction l with
  | nil => simp
  | cons k r ih =>
    have h0 := Int.fmod_nonneg_of_pos k (show (0 : Int) < 1009 by omega)
    have h1 := Int.fmod_lt_of_pos k (show (0 : Int) < 1009 by omega)
    simp only [List.map_cons, List.sum_cons, List.length_cons]
    push_cast
    omega
section
theorem pot_spec {prog : Program} {w : World} {dp un : Nat} {gd : Option (List Code)} {cn : Str} {cs : Scope} {a : Addr} {ccd : Value} {cl : List (Str × Addr)} {outer : List Env} {A₀ : Around} {base h₀ : Heap} {L : Addr} {m : Str → Option Value} {s : Shared} {Q E : Value → Shared → Prop} {loose : List Str} {mean : ExcName → Option Value} {mg mb : Str → Option Value}
  {l0 : Addr} {vs : List Value} {ns : List Int} {news : List (Addr × Obj)}
  (B : Below A₀ base outer h₀) (F : Fr h₀ L s.heap m) (X : (Mine.heapK w.params).In h₀) (N : News h₀ L s.heap news) (T : Top Mine.hd.view_433 loose mean mg mb h₀) (hk : cs.kind = .function)
  (hd : dp + 20 < recursionLimit) (hu : un + 120 < cLine)
  (hl : h₀.IsList l0 vs.toArray) (hi : IntsAre vs ns) (hlen : ns.length ≤ 63)
  (ret : ∀ h' tk' p l st t u n n' vs' ns', IntsAre vs' ns' → ns'.length ≤ 63 → 0 ≤ st → st ≤ 1000000 → @Ne Nat p l → s.heap.get? p = none → s.heap.get? l = none → Kept [] s.heap h' → Fr h₀ L h' m → News h₀ L h' ((p, potObj l 0 st t u n) :: (l, listOf vs'.toArray n') :: news) → Q (.ref p) { s with heap := h', toks := tk' }) :
  wpAny (model prog w) (ktrTop dp un gd cn cs L a ccd cl outer) (call (.ref 169) [.ref l0]) Q E s := by
  refine wpAny_call ?_
  k_dflt (refine' code_defM (binds := [(Str.ofString "script", .ref l0)]) ?k1 ?k2 ?k3 ?k4 ?k5 ?kA ?kF ?kK ?k6 ?k7 ?k8 ?k9 ?kB ?_ ?c2 ?c3 ?c4 ?c5; (case kA => exact rfl); (case kF => exact rfl); (case kK => assumption); (case k1 => k_asm); (case k2 => k_asm); (case k3 => k_asm); (case k4 => exact News.nil); (case k5 => k_asm); (case k6 => k_is); (case k7 => k_is); (case k8 => k_room); (case k9 => exact BindsTo.of_eq rfl); (case c5 => decide); (case kB => exact locs rfl); (case c2 => exact rfl); (case c3 => exact rfl); (case c4 => exact rfl); k_whole)
  intro g L' h' tk hG hG' hL' FG' F' N' B' X' T'
  have hlg : g.IsList l0 vs.toArray := hl.at fun o e => hG _ _ (F.keep _ _ e) (by simp)
  have kept : ∀ (h' : Heap) L' m', Fr g L' h' m' → Kept [] s.heap h' ∧ Fr h₀ L h' m ∧ News h₀ L h' news := fun h' L' m' F' =>
    have k : Kept [] s.heap h' := fun b o e n => F'.keep b o (hG b o e n)
    ⟨k, fr_kept F k.all, news_kept N k.all⟩
  clear F N B X T
  (try dsimp only)
  k_steps
  rename News _ _ _ _ => N9
  rename Fr _ _ _ _ => F9
  obtain ⟨sum0, sum1⟩ := sum_fmod (ns.take 63)
  have hl63 : (ns.take 63).length ≤ 63 := by rw [List.length_take]; omega
  have none_of : ∀ q, g.get? q = none → s.heap.get? q = none := fun q e => by
    cases h : s.heap.get? q with
    | none => rfl
    | some ob => have := hG q ob h (by simp); rw [e] at this; cases this
  refine Stop.of (leaveK_ F9 N9 ?_)
  intro FF NN
  obtain ⟨k1, k2, k3⟩ := kept _ _ _ F9
  have e1 := N9 _ (.head _)
  have e2 := N9 _ (.tail _ (.tail _ (.tail _ (.head _))))
  have m1 := NN _ (.head _)
  have m2 := NN _ (.tail _ (.tail _ (.tail _ (.head _))))
  refine ret _ _ _ _ _ _ _ _ _ _ (ns.take 63) (by assumption) hl63 (by omega) (by omega) (fun e => ?_) (none_of _ e1.2.2) (none_of _ e2.2.2) k1 k2 (two_news m1 m2 k3)
  have h1 := e1.1
  have h2 := e2.1
  dsimp only at h1 h2
  rw [e, h2] at h1
  exact int_ne_pot (by assumption) (Option.some.inj h1)
end


noncomputable def pairData (p : Str × Int) : PyData := .tuple [.str p.1, .int p.2]
theorem pairs_read {h : Heap} : ∀ (c : List (Str × Int)) (vs : List Value), vs.length = c.length → (∀ (i : Nat) (x : Str) (k : Int), c[i]? = some (x, k) → ∃ a t u, vs[i]? = some (.ref a) ∧ IsTup h a #[.str x t, .int k u]) → ∃ as, ReadsAll h vs (c.map pairData) as := by
  intro c
  induction c with
  | nil =>
    intro vs hl _
    have e : vs = [] := List.eq_nil_of_length_eq_zero hl
    subst e
    exact ⟨_, ReadsAll.nil⟩
  | cons p r ih =>
    intro vs hl hi
    cases vs with
    | nil => cases hl
    | cons v vr =>
      obtain ⟨a, t, u, e, o, h1, h2, n, h3⟩ := hi 0 p.1 p.2 rfl
      have e' : v = .ref a := Option.some.inj e
      subst e'
      obtain ⟨as, ra⟩ := ih vr (Nat.succ.inj hl) fun i x k hk => hi (i + 1) x k hk
      exact ⟨_, ReadsAll.cons (reads_tuple_at (xs := [.str p.1, .int p.2]) h1 h2 h3 (ReadsAll.cons (Reads.str p.1 t) (ReadsAll.cons (Reads.int p.2 u) ReadsAll.nil))) ra⟩
theorem code_reads {h : Heap} {l : Addr} {c : List (Str × Int)} (x : CodeAt h l c) : ∃ as, Reads h (.ref l) (.list (c.map pairData)) as := by
  obtain ⟨vs, ⟨o, h1, h2, n, h3⟩, hl, hi⟩ := x
  obtain ⟨as, ra⟩ := pairs_read c vs hl hi
  exact ⟨_, reads_list_at h1 h2 h3 ra⟩
theorem pairs_eqv : ∀ c d : List (Str × Int), PyData.eqvAll (c.map pairData) (d.map pairData) = decide (c = d)
  | [], [] => by simp [PyData.eqvAll]
  | [], _ :: _ => by simp [PyData.eqvAll]
  | _ :: _, [] => by simp [PyData.eqvAll]
  | (x, k) :: c, (y, n) :: d => by
    rw [List.map_cons, List.map_cons, PyData.eqvAll, pairs_eqv c d, Bool.eq_iff_iff]
    simp [PyData.eqv, PyData.eqvAll, pairData]
theorem pairs_lay : ∀ c : List (Str × Int), (∀ i ∈ c, PyData.strOk i.1 = true) → PyData.canLayAll0 (c.map pairData) = true ∧ PyData.depthAll (c.map pairData) ≤ 1
  | [], _ => by simp [PyData.canLayAll0, PyData.depthAll]
  | p :: c, h => by
    obtain ⟨h1, h2⟩ := pairs_lay c fun i hi => h i (.tail _ hi)
    have h3 := h p (.head _)
    refine ⟨by simp [PyData.canLayAll0, pairData, PyData.canLay0, h3, h1], ?_⟩
    simp only [List.map_cons, PyData.depthAll, pairData, PyData.depth]
    omega
theorem code_shaped {c : List (Str × Int)} (h : ∀ i ∈ c, PyData.strOk i.1 = true) : SeqAt.shaped (.list (c.map pairData)) = true := by
  obtain ⟨h1, h2⟩ := pairs_lay c h
  refine Bool.and_eq_true_iff.mpr ⟨by rw [PyData.canLay0]; exact h1, decide_eq_true ?_⟩
  rw [PyData.depth]
  omega
theorem sort_strOk : ∀ p ∈ sortTab, PyData.strOk p.1 = true := by decide +kernel
theorem words_strOk {c : List (Str × Int)} (h : WordsOk c) : ∀ i ∈ c, PyData.strOk i.1 = true := fun i hi => by
  obtain ⟨y, hy⟩ := h i hi
  exact sort_strOk _ (lookup_mem hy)
theorem parses_words {t : Str} {rs : List (Bool × Str × Int)} (h : Parses t rs) : WordsOk (rs.map (·.2)) := by
  obtain ⟨yi, _, hl, hr, _⟩ := h
  exact fun i hi => (rows_mem hr i hi).1
theorem ne_code {prog : Program} {w : World} {A : Around} {E : Value → Shared → Prop} {s : Shared} {a b : Addr} {c d : List (Str × Int)} {Q : Value → Shared → Prop}
    (ha : CodeAt s.heap a c) (hb : CodeAt s.heap b d) (hc : WordsOk c) (hd : WordsOk d) (hu : A.units + 64 < cLine)
    (h : Q (.bool (!decide (c = d))) s) : wpAny (model prog w) A (compareOp .NotEq (.ref a) (.ref b)) Q E s := by
  obtain ⟨as, ra⟩ := code_reads ha
  obtain ⟨bs, rb⟩ := code_reads hb
  have e : PyData.eqv (.list (c.map pairData)) (.list (d.map pairData)) = decide (c = d) := by
    rw [PyData.eqv]
    exact pairs_eqv c d
  exact ne_dataH ra rb (code_shaped (words_strOk hc)) (code_shaped (words_strOk hd)) hu (by rw [e]; exact h)
theorem ne_none {prog : Program} {w : World} {A : Around} {E : Value → Shared → Prop} {s : Shared} {b : Addr} {d : List (Str × Int)} {Q : Value → Shared → Prop}
    (hb : CodeAt s.heap b d) (hd : WordsOk d) (hu : A.units + 64 < cLine)
    (h : Q (.bool true) s) : wpAny (model prog w) A (compareOp .NotEq .none (.ref b)) Q E s := by
  obtain ⟨bs, rb⟩ := code_reads hb
  exact ne_dataH Reads.none rb (by decide) (code_shaped (words_strOk hd)) hu h


section
open LCg
variable {prog : Program} {w : World} {A : Around} {E : Value → Shared → Prop} {s : Shared} {h₀ : Heap} {L : Addr} {m : Str → Option Value} {env : Env}
theorem pairs_block {elt iter c : Expr} {x x₂ : Str} {px px₂ tp : Pos} {tk0 : Nat} {scope : Scope} {pos : Pos} {s₂ : Shared} {I l : Addr} {vs : List Value} {cc : List (Str × Int)} {news : List (Addr × Obj)} {RR : Value → Addr → Result → Shared → Prop} (p : Str → Bool)
    (hh : A.handled = none) (hne : l ≠ I) (hit : s₂.heap.IsListIter I l 0) (F : Fr h₀ L s₂.heap m) (N : News h₀ L s₂.heap news) (hIL : L ≠ I) (hI₀ : h₀.get? I = none) (off : ∀ q ∈ news, q.1 ≠ I)
    (hcell : ∀ y ∈ scope.names, y.2 ≠ .cell) (hkind : scope.kind = .function) (hx : scope.names.lookup x = some .local) (hx₂ : scope.names.lookup x₂ = some .local) (hxx : x ≠ x₂)
    (hl : (l, lst vs) ∈ news) (hlen : vs.length = cc.length) (hz : vs.length ≤ sizeLine)
    (htup : ∀ (i : Nat) (y : Str) (k : Int), cc[i]? = some (y, k) → ∃ a t u, vs[i]? = some (.ref a) ∧ (a, tupObj y k t u) ∈ news)
    (htest : ∀ C (s : Shared) m₂ y t (E' : Value → Shared → Prop), s.heap.Ns C m₂ → m₂ x = some (.str y t) → wpAny (model prog w) A (isTrue c (compEnvC scope [] C env) (eval c (compEnvC scope [] C env))) (fun ok s' => ok = p y ∧ Keeps s s') E' s)
    (helt : ∀ C (s : Shared) m₂ k u (E' : Value → Shared → Prop), s.heap.Ns C m₂ → m₂ x₂ = some (.int k u) → wpAny (model prog w) A (eval elt (compEnvC scope [] C env)) (fun v s' => (∃ u', v = .int k u') ∧ Keeps s s') E' s)
    (hRR : ∀ D C h tk m' ys, Fr h₀ L h m → News h₀ L h ((D, lst ys) :: news) → h.Ns C m' → h₀.get? C = none → C ≠ L → D ≠ C → (∀ q ∈ news, q.1 ≠ C) → IntsAre ys ((cc.filter fun i => p i.1).map (·.2)) → RR (.ref D) C (.ok .next) { s₂ with heap := h, toks := tk }) :
    wpAny (model prog w) A (newList []) (fun acc s₃ => wpAny (model prog w) A (newFunctionEnv scope env.globals [] [] env.qual none .none (some env)) (fun cenv s₄ =>
      codeAny (model prog w) A (.compStart (.ListComp elt [⟨.Tuple [.Name x px, .Name x₂ px₂] tk0 tp, iter, [c], 0⟩] scope pos) 0 (.ref I) acc { cenv with scope := relabel scope env }) (RR acc cenv.locals) s₄) E s₃) E s₂ := by
  have W := Walks.list (prog := prog) (w := w) (A := A) hh I l hne vs.toArray
  have hst : (s₂.heap.IsListIter I l 0 ∧ s₂.heap.IsList l vs.toArray) := ⟨hit, ⟨_, (N _ hl).1, rfl, _, rfl⟩⟩
  refine wpAny_newObj_type (wpAny_newFunctionEnv hcell (by intro y hy; simp at hy) (fun h₁ hns₁ hsb₁ => ?_) hkind)
  dsimp only at hns₁ hsb₁ ⊢
  generalize hH2 : s₂.heap.push { cls := .type "list", dict := none, data := .seq ([] : List Value).toArray } = H2 at hns₁ hsb₁ ⊢
  have hC : H2.objs.size = s₂.heap.objs.size + 1 := by rw [← hH2, Heap.size_push]
  have hDC : s₂.heap.objs.size ≠ H2.objs.size := by rw [hC]; exact Nat.ne_of_lt (Nat.lt_succ_self _)
  have below : ∀ b, b < s₂.heap.objs.size → b ≠ H2.objs.size ∧ b ≠ s₂.heap.objs.size := fun b hb => ⟨by rw [hC]; exact Nat.ne_of_lt (Nat.lt_succ_of_lt hb), Nat.ne_of_lt hb⟩
  have hIlt : I < s₂.heap.objs.size := by obtain ⟨o, e, _⟩ := hit; exact Heap.lt_size e
  have hllt : l < s₂.heap.objs.size := Heap.lt_size (N _ hl).1
  have old : ∀ b o, s₂.heap.get? b = some o → h₁.get? b = some o := fun b o e => hsb₁.extBut b o (below b (Heap.lt_size e)).1 (Heap.get?_push_of_some _ (hH2 ▸ Heap.get?_push_of_some _ e))
  have hacc : h₁.get? s₂.heap.objs.size = some (lst []) := hsb₁.extBut _ _ hDC (Heap.get?_push_of_some _ (hH2 ▸ Heap.get?_push_size _ rfl))
  have fresh : ∀ a, s₂.heap.objs.size ≤ a → s₂.heap.get? a = none := fun a ha => by
    cases e : s₂.heap.get? a with
    | none => rfl
    | some o' => exact absurd (Heap.lt_size e) (Nat.not_lt.mpr ha)
  have fresh₀ : ∀ a, s₂.heap.objs.size ≤ a → h₀.get? a = none := fun a ha => by
    cases e : h₀.get? a with
    | none => rfl
    | some o' => have := F.keep a o' e; rw [fresh a ha] at this; cases this
  have hD₀ : h₀.get? s₂.heap.objs.size = none := fresh₀ _ (Nat.le_refl _)
  have hC₀ : h₀.get? H2.objs.size = none := fresh₀ _ (by rw [hC]; exact Nat.le_succ _)
  have hLlt : L < s₂.heap.objs.size := F.ns.lt
  have hDL : s₂.heap.objs.size ≠ L := Ne.symm (below L hLlt).2
  have hCL : H2.objs.size ≠ L := Ne.symm (below L hLlt).1
  have hCI : I ≠ H2.objs.size := (below I hIlt).1
  have hDI : I ≠ s₂.heap.objs.size := (below I hIlt).2
  have offC : ∀ q ∈ news, q.1 ≠ H2.objs.size := fun q hq => (below _ (Heap.lt_size (N q hq).1)).1
  have offD : ∀ q ∈ news, q.1 ≠ s₂.heap.objs.size := fun q hq => (below _ (Heap.lt_size (N q hq).1)).2
  have hvl : vs.toArray.size = cc.length := by rw [List.size_toArray, hlen]
  have loop : ∀ s₃ : Shared, s₃ = { s₂ with heap := h₁, toks := s₂.toks + ([] : List (Str × Value)).length } →
      codeAny (model prog w) A (.compLoop (.ListComp elt [⟨.Tuple [.Name x px, .Name x₂ px₂] tk0 tp, iter, [c], 0⟩] scope pos) 0 (.ref I) (.ref s₂.heap.objs.size) (compEnvC scope [] H2.objs.size env))
        (RR (.ref s₂.heap.objs.size) H2.objs.size) s₃ := by
    rintro s₃ rfl
    refine kct_loop
      (fun k s' => ∃ h' tk i ys m', s' = { s₂ with heap := h', toks := tk } ∧ i ≤ cc.length ∧ k = cc.length + 1 - i ∧ (h'.IsListIter I l i ∧ h'.IsList l vs.toArray) ∧ Fr h₀ L h' m ∧ h'.Ns H2.objs.size m' ∧ News h₀ L h' ((s₂.heap.objs.size, lst ys) :: news) ∧
        IntsAre ys (((cc.take i).filter fun i => p i.1).map (·.2))) ?_ (cc.length + 1)
      ⟨h₁, _, 0, [], _, rfl, Nat.zero_le _, rfl, ⟨by obtain ⟨o, e, r⟩ := hst.1; exact ⟨o, old _ _ e, r⟩, hst.2.at fun o e => old _ _ e⟩, F.keeps old, hns₁, fun q hq => ?_, .nil⟩
    · intro k s' hJ
      (try (refine fold_ ?_; k_fold))
      obtain ⟨h', tk, i, ys, m', rfl, hi, rfl, hst', F', hn', N', hI'⟩ := hJ
      by_cases hlt : i < cc.length
      · refine W.item i _ _ _ (by rw [hvl]; exact hlt) hst' fun v h₂ tk₂ hPv hst₂ hk₂ => ?_
        (try (refine fold_ ?_; k_fold))
        obtain ⟨⟨y, k⟩, hyk⟩ : ∃ q, cc[i]? = some q := ⟨_, List.getElem?_eq_getElem hlt⟩
        obtain ⟨a, t, u, hva, hma⟩ := htup i y k hyk
        have hv : v = .ref a := by
          have h1 : vs.toArray[i]? = some v := hPv
          rw [List.getElem?_toArray, hva] at h1
          exact (Option.some.inj h1).symm
        subst hv
        have N₂ : News h₀ L h₂ ((s₂.heap.objs.size, lst ys) :: news) := news_but N' hk₂ fun q hq => by
          rcases List.mem_cons.mp hq with rfl | hq
          · exact Ne.symm hDI
          · exact off q hq
        have ht : IsTup h₂ a #[.str y t, .int k u] := ⟨_, (N₂ _ (List.mem_cons_of_mem _ hma)).1, rfl, _, rfl⟩
        refine wpAny_letOwnedTupleGo_listiter hst₂.1 ?_
        refine assign_Tuple_tuple hh ht rfl rfl fun h₅ he => ?_
        have he' : ∀ b o, h₂.get? b = some o → h₅.get? b = some o := fun b o e => he b o (Nat.ne_of_lt (Heap.lt_size e)) e
        refine assignInOrder_cons (wpAny_assign_Name (wpAny_storeName_local (lookup_relabel_local hx) ((hn'.at' fun o e => hk₂ _ o (by simpa using Ne.symm hCI) e).at' fun o e => he' _ o e) (fun h₆ hn₆ hs₆ => ?_) (by simp [compEnvC, relabel, hkind])))
        refine assignInOrder_cons (wpAny_assign_Name (wpAny_storeName_local (lookup_relabel_local hx₂) hn₆ (fun h₃ hn₃ hs₃ => ?_) (by simp [compEnvC, relabel, hkind])))
        refine assignInOrder_nil ?_
        have old3 : ∀ b o, b ≠ H2.objs.size → h₂.get? b = some o → h₃.get? b = some o := fun b o hb e => hs₃.extBut b o hb (hs₆.extBut b o hb (he' b o e))
        have F₃ : Fr h₀ L h₃ m := (((fr_but F' hk₂ hIL hI₀).keeps he').change hs₆ hCL hC₀).change hs₃ hCL hC₀
        have N₃ : News h₀ L h₃ ((s₂.heap.objs.size, lst ys) :: news) := fun q hq => by
          have z := N₂ q hq
          refine ⟨old3 _ _ ?_ z.1, z.2⟩
          rcases List.mem_cons.mp hq with rfl | hq
          · exact hDC
          · exact offC q hq
        have hit₃ : h₃.IsListIter I l (i + 1) := by obtain ⟨o, e, r⟩ := hst₂.1; exact ⟨o, old3 _ _ hCI e, r⟩
        have htake : cc.take (i + 1) = cc.take i ++ [(y, k)] := by rw [List.take_add_one, hyk]; rfl
        refine wpAny_mono (htest H2.objs.size _ _ y t _ hn₃ (by simp [hxx])) (fun ok s₅ hq => ?_) fun _ _ e => e
        obtain ⟨rfl, h₇, tk₇, rfl, hk₇⟩ := hq
        have nx : ∀ (h₈ : Heap) (tk₈ : Nat) (ys' : List Value), Fr h₀ L h₈ m → News h₀ L h₈ ((s₂.heap.objs.size, lst ys') :: news) → h₈.IsListIter I l (i + 1) → (∃ m', h₈.Ns H2.objs.size m') → IntsAre ys' (((cc.take (i + 1)).filter fun i => p i.1).map (·.2)) →
            ∃ q', q' < cc.length + 1 - i ∧ (∃ h' tk i ys m', ({ s₂ with heap := h₈, toks := tk₈ } : Shared) = { s₂ with heap := h', toks := tk } ∧ i ≤ cc.length ∧ q' = cc.length + 1 - i ∧ (h'.IsListIter I l i ∧ h'.IsList l vs.toArray) ∧ Fr h₀ L h' m ∧ h'.Ns H2.objs.size m' ∧ News h₀ L h' ((s₂.heap.objs.size, lst ys) :: news) ∧
              IntsAre ys (((cc.take i).filter fun i => p i.1).map (·.2))) := by
          intro h₈ tk₈ ys' F₈ N₈ hit₈ hn₈ hI₈
          obtain ⟨m₈, hn₈⟩ := hn₈
          exact ⟨cc.length + 1 - (i + 1), by omega, h₈, tk₈, i + 1, ys', m₈, rfl, hlt, rfl, ⟨hit₈, ⟨_, (N₈ _ (List.mem_cons_of_mem _ hl)).1, rfl, _, rfl⟩⟩, F₈, hn₈, N₈, hI₈⟩
        have it₇ : h₇.IsListIter I l (i + 1) := by obtain ⟨o, e, r⟩ := hit₃; exact ⟨o, hk₇ _ _ e, r⟩
        cases hp : p y with
        | false =>
          rw [if_neg (by simp)]
          refine nx h₇ tk₇ ys (F₃.keeps hk₇) (N₃.grown hk₇) it₇ ⟨_, hn₃.at' fun o e => hk₇ _ _ e⟩ ?_
          rw [htake, List.filter_append, List.filter_cons_of_neg (by simp [hp]), List.filter_nil, List.append_nil]
          exact hI'
        | true =>
          rw [if_pos rfl]
          refine wpAny_mono (helt H2.objs.size _ _ k u _ (hn₃.at' fun o e => hk₇ _ _ e) (by simp)) (fun vv s₆ hq => ?_) fun _ _ e => e
          obtain ⟨⟨u', rfl⟩, h₈, tk₈, rfl, hk₈⟩ := hq
          have up : ∀ b o, h₃.get? b = some o → h₈.get? b = some o := fun b o e => hk₈ b o (hk₇ b o e)
          have N₈ : News h₀ L h₈ ((s₂.heap.objs.size, lst ys) :: news) := N₃.grown up
          have hyl : ys.length ≤ i := by
            have h1 := hI'.length
            rw [List.length_map] at h1
            have h2 := List.length_filter_le (fun i : Str × Int => p i.1) (cc.take i)
            rw [List.length_take] at h2
            omega
          refine append_at (hsz := by show ys.toArray.size ≤ sizeLine; rw [List.size_toArray]; omega) (N₈ _ List.mem_cons_self).1 fun h₉ hs₉ hD₉ => ?_
          refine nx h₉ tk₈ (ys ++ [.int k u']) ((F₃.keeps up).change hs₉ hDL hD₀) (fun q hq => ?_) ?_ ⟨_, (hn₃.at' fun o e => up _ _ e).sameBut hs₉ (Ne.symm hDC)⟩ ?_
          · rcases List.mem_cons.mp hq with rfl | hq
            · exact ⟨hD₉.trans (congrArg some (lst_snoc ys _)), hDL, hD₀⟩
            · exact ⟨hs₉.extBut _ _ (offD q hq) (N₈ q (List.mem_cons_of_mem _ hq)).1, (N₈ q (List.mem_cons_of_mem _ hq)).2⟩
          · obtain ⟨o, e, r⟩ := hit₃
            exact ⟨o, hs₉.extBut _ _ hDI (up _ _ e), r⟩
          · rw [htake, List.filter_append, List.filter_cons_of_pos (by simp [hp]), List.filter_nil, List.map_append]
            exact IntsAre.append hI' (.cons k u' .nil)
      · obtain rfl : i = cc.length := Nat.le_antisymm hi (Nat.not_lt.mp hlt)
        rw [List.take_length] at hI'
        refine W.done _ _ _ (by rw [hvl]; exact hst') fun h₂ tk₂ hk₂ => ?_
        exact hRR _ _ h₂ tk₂ _ ys (fr_but F' hk₂ hIL hI₀) (news_but N' hk₂ fun q hq => by
          rcases List.mem_cons.mp hq with rfl | hq
          · exact Ne.symm hDI
          · exact off q hq) (hn'.at' fun o e => hk₂ _ o (by simpa using Ne.symm hCI) e) hC₀ hCL hDC offC hI'
    · rcases List.mem_cons.mp hq with rfl | hq
      · exact ⟨hacc, hDL, hD₀⟩
      · exact ⟨old _ _ (N q hq).1, (N q hq).2⟩
  exact codeAny_compStart_list (loop _ rfl) (W.self 0 _ _ _ ⟨by obtain ⟨o, e, r⟩ := hst.1; exact ⟨o, old _ _ e, r⟩, hst.2.at fun o e => old _ _ e⟩ (loop _ rfl))
theorem comp_pairs {elt iter c : Expr} {x x₂ : Str} {px px₂ tp : Pos} {tk0 : Nat} {scope : Scope} {pos : Pos} {l : Addr} {vs : List Value} {cc : List (Str × Int)} {news : List (Addr × Obj)} {Q : Value → Shared → Prop} (p : Str → Bool)
    (hh : A.handled = none) (F : Fr h₀ L s.heap m) (N : News h₀ L s.heap news) (hclos : closureFor scope env = pure [])
    (hcell : ∀ y ∈ scope.names, y.2 ≠ .cell) (hkind : scope.kind = .function) (hnames : ∀ y ∈ scope.names, y.2 = .local → scope.names.lookup y.1 = some .local) (hx : scope.names.lookup x = some .local) (hx₂ : scope.names.lookup x₂ = some .local) (hxx : x ≠ x₂)
    (hl : (l, lst vs) ∈ news) (hlen : vs.length = cc.length) (hz : vs.length ≤ sizeLine)
    (htup : ∀ (i : Nat) (y : Str) (k : Int), cc[i]? = some (y, k) → ∃ a t u, vs[i]? = some (.ref a) ∧ (a, tupObj y k t u) ∈ news)
    (hit : ∀ Q' : Value → Shared → Prop, Q' (.ref l) s → wpAny (model prog w) A (eval iter env) Q' E s)
    (htest : ∀ C (s : Shared) m₂ y t (E' : Value → Shared → Prop), s.heap.Ns C m₂ → m₂ x = some (.str y t) → wpAny (model prog w) A (isTrue c (compEnvC scope [] C env) (eval c (compEnvC scope [] C env))) (fun ok s' => ok = p y ∧ Keeps s s') E' s)
    (helt : ∀ C (s : Shared) m₂ k u (E' : Value → Shared → Prop), s.heap.Ns C m₂ → m₂ x₂ = some (.int k u) → wpAny (model prog w) A (eval elt (compEnvC scope [] C env)) (fun v s' => (∃ u', v = .int k u') ∧ Keeps s s') E' s)
    (h_ : ∀ D h' tk ys, Fr h₀ L h' m → News h₀ L h' ((D, lst ys) :: news) → IntsAre ys ((cc.filter fun i => p i.1).map (·.2)) → Q (.ref D) { s with heap := h', toks := tk })
    (hs : ∀ x, foldedSetIterable iter env x = pure x := by intro _; rfl) :
    wpAny (model prog w) A (eval (.ListComp elt [⟨.Tuple [.Name x px, .Name x₂ px₂] tk0 tp, iter, [c], 0⟩] scope pos) env) Q E s := by
  rw [eval_ListComp]
  refine wpAny_comprehension_free (use := none) rfl hs hclos hkind hnames (hit _ ?_)
  have hls : s.heap.IsList l vs.toArray := ⟨_, (N _ hl).1, rfl, _, rfl⟩
  have hlt : l < s.heap.objs.size := Heap.lt_size (N _ hl).1
  refine wpAny_pyIter_list hls ?_
  have up : ∀ b o, s.heap.get? b = some o → (s.heap.push { cls := .type "list_iterator", data := .fields #[.ref l, .int 0 0] }).get? b = some o := fun b o e => Heap.get?_push_of_some _ e
  refine pairs_block (l := l) (vs := vs) (cc := cc) (news := news) p hh (Nat.ne_of_lt hlt) ⟨_, Heap.get?_push_size _ rfl, rfl, rfl⟩ (F.keeps up) (N.grown up) (Nat.ne_of_lt F.ns.lt) (next_is_new F) (fun q hq => Nat.ne_of_lt (Heap.lt_size (N q hq).1)) hcell hkind hx hx₂ hxx hl hlen hz htup htest helt ?_
  intro D C h tk m' ys F' N' hn hC₀ hCL hDC offC hI
  refine ⟨m', hn, fun h'' hs'' => h_ D h'' tk ys (F'.change hs'' hCL hC₀) (fun q hq => ?_) hI⟩
  refine ⟨hs''.extBut _ _ ?_ (N' q hq).1, (N' q hq).2⟩
  rcases List.mem_cons.mp hq with rfl | hq
  · exact hDC
  · exact offC q hq
end
section
variable {prog : Program} {w : World} {A : Around} {E : Value → Shared → Prop} {s : Shared}
noncomputable abbrev wdScope : Scope := { kind := ScopeKind.function, names := [(Str.ofString ".0", NameKind.local), (Str.ofString "word", NameKind.local), (Str.ofString "operand", NameKind.local)], isGenerator := false, isCoroutine := false }
theorem word_test {env : Env} {C : Addr} {m₂ : Str → Option Value} {x : Str} {t : Tok} {p1 p2 p3 p4 p5 p6 : Pos}
    (hrel : relabel wdScope env = wdScope)
    (hNs : s.heap.Ns C m₂) (hx : m₂ (Str.ofString "word") = some (.str x t)) :
    wpAny (model prog w) A (PySem.isTrue (Expr.Compare (.Name (Str.ofString "word") p1) [CmpOp.In] [.Tuple [.Constant (Const.str (Str.ofString "goto")) 0 p2, .Constant (Const.str (Str.ofString "gotoifnil")) 0 p3, .Constant (Const.str (Str.ofString "pushcatch")) 0 p4] 0 p5] p6) (compEnvC wdScope [] C env) (eval (Expr.Compare (.Name (Str.ofString "word") p1) [CmpOp.In] [.Tuple [.Constant (Const.str (Str.ofString "goto")) 0 p2, .Constant (Const.str (Str.ofString "gotoifnil")) 0 p3, .Constant (Const.str (Str.ofString "pushcatch")) 0 p4] 0 p5] p6) (compEnvC wdScope [] C env)))
      (fun ok s₃ => ok = (x == Str.ofString "goto" || (x == Str.ofString "gotoifnil" || x == Str.ofString "pushcatch")) ∧ Keeps s s₃) E s := by
  have e : compEnvC wdScope [] C env = { scope := wdScope, locals := C, globals := env.globals, cells := [], qual := env.qual, func := none, code := env.code, frame := env.frame, builtins := env.builtins } := by
    unfold compEnvC
    rw [hrel]
  rw [e]
  refine wpAny_isTrue_Compare1 (wpAny_Name (wpAny_loadName_local rfl rfl hNs hx ?_))
  k_steps
  refine wpAny_newTuple ?_ (by show 3 ≤ sizeLine; rw [sizeLine_eq]; omega)
  refine in_tuple_strs (items := [Value.str (Str.ofString "goto") s.toks, Value.str (Str.ofString "gotoifnil") (s.toks + 1), Value.str (Str.ofString "pushcatch") (s.toks + 1 + 1)].toArray) ⟨_, Heap.get?_push_size _ rfl, rfl, _, rfl⟩ (.cons _ _ (.cons _ _ (.cons _ _ .nil))) ?_
  refine wpAny_truthy_bool ?_
  refine ⟨?_, _, _, rfl, fun b o e => Heap.get?_push_of_some _ e⟩
  simp only [List.any_cons, List.any_nil, Bool.or_false]
  rw [Bool.beq_comm (a := x), Bool.beq_comm (a := x), Bool.beq_comm (a := x)]
end
theorem line_star (b : Bool) (i : Nat) {x : Str} {k : Int} (h : Written x k) : 1 ≤ (lineText b i x k).length ∧ Txt.item (lineText b i x k) 0 = starStr b := by
  have hcs := line_cs b i h
  obtain ⟨c, hc, hc2⟩ := cs_star b
  have hlen : 1 ≤ (lineText b i x k).length := by rw [← cs_length, hcs, hc]; simp
  refine ⟨hlen, ?_⟩
  rw [item_slice hlen]
  refine cs_inj ?_
  rw [cs_to (by omega) (by omega), hcs, hc]
  rfl


theorem off_of {h₀ h : Heap} {L p : Addr} {news : List (Addr × Obj)} {q : Addr × Obj} (N : News h₀ L h news) (hm : q ∈ news) (e : h.get? p = none) : @Ne Nat p q.1 := fun x => by
  have := (N q hm).1
  rw [← x, e] at this
  cases this
section
variable {prog : Program} {w : World} {A : Around} {h₀ : Heap} {L : Addr} {m : Str → Option Value} {env : Env} {elt : Expr} {x : Str} {scope : Scope} {cl : List (Str × Addr)} {s : Shared} {S : List (Addr × Obj) → Prop} {P : Nat → Value → Prop} {Fin : List Value → List (Addr × Obj) → Prop}
theorem rest_inv (I : Nat → Nat → List Value → List (Addr × Obj) → Prop) (fin : ∀ i ys news, I 0 i ys news → Fin ys news)
    (turn : ∀ k i ys news, I (k + 1) i ys news → ∀ v J oJ C oC D m₂ h tk (E' : Value → Shared → Prop), P i v → LCg.NsObj oC m₂ → m₂ x = some v → Fr h₀ L h m → News h₀ L h ((J, oJ) :: (C, oC) :: (D, LCg.lst ys) :: news) → LCg.Off3 J C D news → ((@Ne Nat J C) ∧ (@Ne Nat J D) ∧ (@Ne Nat C D)) →
      wpAny (model prog w) A (eval elt (compEnvC scope cl C env)) (LCg.CompEnd h₀ L m { s with heap := h, toks := tk } J oJ C oC D (LCg.lst ys) S (fun y news' => I k (i + 1) (ys ++ [y]) news')) E' { s with heap := h, toks := tk }) :
    ∀ k i ys news, I k i ys news → LCg.CompRest prog w A h₀ L m env elt x scope cl s S P Fin k i ys news := by
  intro k
  induction k with
  | zero => intro i ys news h; exact LCg.CompRest.zero (fin i ys news h)
  | succ k ih =>
    intro i ys news h
    refine LCg.CompRest.succ ?_
    intro v J oJ C oC D m₂ h' tk E' hv hC hx F N off ne
    refine wpAny_mono (turn k i ys news h v J oJ C oC D m₂ h' tk E' hv hC hx F N off ne) (fun y s₂ hq => ?_) fun _ _ e => e
    obtain ⟨h2, tk2, nw, e, F', N', off', hS, r⟩ := hq
    exact ⟨h2, tk2, nw, e, F', N', off', hS, ih _ _ _ r⟩
end
/-- the code's tuples so far -/
abbrev TRow := Addr × (Str × Int) × Tok × Tok
noncomputable def tupOf (r : TRow) : Addr × Obj := (r.1, tupObj r.2.1.1 r.2.1.2 r.2.2.1 r.2.2.2)
noncomputable def tups (T : List TRow) : List (Addr × Obj) := (T.map tupOf).reverse
theorem tups_snoc (T : List TRow) (r : TRow) : tups (T ++ [r]) = tupOf r :: tups T := by simp [tups]
theorem tups_mem {T : List TRow} {q : Addr × Obj} (h : q ∈ tups T) : ∃ r ∈ T, q = tupOf r := by
  simp only [tups, List.mem_reverse, List.mem_map] at h
  obtain ⟨r, h1, h2⟩ := h
  exact ⟨r, h1, h2.symm⟩
theorem code_of_tups {h₀ h : Heap} {L D : Addr} {ys : List Value} {news : List (Addr × Obj)} {T : List TRow} (N : News h₀ L h news) (hD : (D, LCg.lst ys) ∈ news) (hy : ys = T.map fun r => Value.ref r.1) (hT : ∀ q ∈ tups T, q ∈ news) : CodeAt h D (T.map (·.2.1)) := by
  subst hy
  refine ⟨_, ⟨_, (N _ hD).1, rfl, _, rfl⟩, by simp, fun i x k hi => ?_⟩
  rw [List.getElem?_map] at hi
  cases e : T[i]? with
  | none => rw [e] at hi; cases hi
  | some r =>
    rw [e] at hi
    have hi' : r.2.1 = (x, k) := Option.some.inj hi
    refine ⟨r.1, r.2.2.1, r.2.2.2, by rw [List.getElem?_map, e]; rfl, ?_⟩
    have hm : tupOf r ∈ tups T := by
      simp only [tups, List.mem_reverse]
      exact List.mem_map_of_mem (List.mem_of_getElem? e)
    have z := (N _ (hT _ hm)).1
    show IsTup h r.1 #[.str x r.2.2.1, .int k r.2.2.2]
    have e1 : x = r.2.1.1 := by rw [hi']
    have e2 : k = r.2.1.2 := by rw [hi']
    rw [e1, e2]
    exact ⟨_, z, rfl, _, rfl⟩
theorem fr_slots {h₀ h h' : Heap} {L : Addr} {m : Str → Option Value} (F : Fr h₀ L h m) (k : Kept [L] h h') (u : h.UpToSlots h') : Fr h₀ L h' m :=
  Fr.of_stays F (fun b o e => k b o (F.keep b o e) fun hm => by
    rw [List.mem_singleton.mp hm, Heap.get?_none_of_le F.above] at e
    cases e) u
theorem news_slots {h₀ h h' : Heap} {L : Addr} {news : List (Addr × Obj)} (N : News h₀ L h news) (k : Kept [L] h h') : News h₀ L h' news :=
  fun q hq => ⟨k _ _ (N q hq).1 (by simpa using (N q hq).2.1), (N q hq).2⟩
theorem any_same {α : Type} {l : List α} {f g : α → Bool} (h : ∀ q ∈ l, f q = g q) : l.any f = l.any g := by
  induction l with
  | nil => rfl
  | cons a r ih => rw [List.any_cons, List.any_cons, h a (.head _), ih fun q hq => h q (.tail _ hq)]
theorem tups_get {T : List TRow} {ys : List Value} {c : List (Str × Int)} (hy : ys = T.map fun r => Value.ref r.1) (hc : c = T.map (·.2.1)) (i : Nat) (y : Str) (k : Int) (h : c[i]? = some (y, k)) : ∃ a t u, ys[i]? = some (.ref a) ∧ (a, tupObj y k t u) ∈ tups T := by
  subst hy hc
  rw [List.getElem?_map] at h
  cases e : T[i]? with
  | none => rw [e] at h; cases h
  | some r =>
    rw [e] at h
    have h' : r.2.1 = (y, k) := Option.some.inj h
    refine ⟨r.1, r.2.2.1, r.2.2.2, by rw [List.getElem?_map, e]; rfl, ?_⟩
    have hm : tupOf r ∈ tups T := by
      simp only [tups, List.mem_reverse]
      exact List.mem_map_of_mem (List.mem_of_getElem? e)
    have e1 : y = r.2.1.1 := by rw [h']
    have e2 : k = r.2.1.2 := by rw [h']
    rw [e1, e2]
    exact hm
/-- what holds between two lines -/
inductive LawI (p l : Addr) (z : Int) (n n' : Nat) (vs' : List Value) (b2 b1 : Addr) (k i : Nat) (ys : List Value) (news : List (Addr × Obj)) : Prop
  | mk (T : List TRow) (st : Int) (t u tq : Tok) (oA oB : Obj) (hik : i + k = (1 + z - 0).toNat) (hst0 : 0 ≤ st) (hst1 : st ≤ 1000000) (hT : T.length = i) (hys : ys = T.map (fun r => Value.ref r.1)) (hok : ∀ r ∈ T, r.1 ≠ p ∧ InsOk (1 + z) r.2.1) (hA : oA.data = Data.cell (some (Value.int (1 + z) tq))) (hB : oB.data = Data.cell (some (Value.ref p)))
    (hnews : news = (p, potObj l (1 + 2 * (i : Int)) st t u n) :: (l, W.listOf vs'.toArray n') :: (b2, oA) :: (b1, oB) :: tups T) : LawI p l z n n' vs' b2 b1 k i ys news
theorem idx_le {i k : Nat} {z : Int} (h : i + k = (1 + z - 0).toNat) (h2 : z < 8) : i ≤ 8 := by omega
theorem idx_end {i m : Nat} {z : Int} (h : i + 0 = (1 + z - 0).toNat) (e : m = i) : m = (1 + z).toNat := by omega
theorem num_le {c : Nat} {z : Int} (h : c = (1 + z).toNat) (h2 : z < 8) : c ≤ 8 := by omega
theorem num_ge {c : Nat} {z : Int} (h : c = (1 + z).toNat) (h2 : 0 ≤ z) : 1 ≤ c := by omega
theorem idx_next {i k : Nat} {z : Int} (h : i + (k + 1) = (1 + z - 0).toNat) : i + 1 + k = (1 + z - 0).toNat := by omega
theorem idx_0 {z : Int} : 0 + (1 + z - 0).toNat = (1 + z - 0).toNat := Nat.zero_add _
theorem rng_le {z : Int} (h2 : z < 8) : (1 + z - 0).toNat ≤ 16777216 := by omega
theorem at_le {i : Nat} (h : i ≤ 8) : 1 + 2 * (i : Int) ≤ 900000 := by omega
theorem at_ge {i : Nat} : 0 ≤ 1 + 2 * (i : Int) := by omega
theorem at_next {i : Nat} : 1 + 2 * (i : Int) + 2 = 1 + 2 * ((i + 1 : Nat) : Int) := by omega
theorem many_ge {z : Int} (h : 0 ≤ z) : 1 ≤ 1 + z := by omega
theorem many_le {z : Int} (h : z < 8) : 1 + z ≤ 8 := by omega
section
local macro_rules | `(tactic| walk_at "call ref") => `(tactic| (refine Stop.out ?_))
local macro_rules | `(tactic| walk_at "exec Assign cons ListComp") => `(tactic| (k_here; refine Stop.out ?_))
local macro_rules | `(tactic| walk_at "eval ListComp") => `(tactic| (k_here; refine Stop.out ?_))
local macro_rules | `(tactic| walk_at "CompSrc") => `(tactic| (refine Stop.out ?_))
local macro_rules | `(tactic| walk_at "FinA") => `(tactic| (refine Stop.out ?_))
local macro_rules | `(tactic| walk_at "compareOp NotEq ref ref") => `(tactic| (refine Stop.out ?_))
local macro_rules | `(tactic| walk_at "subscriptTail") => `(tactic| (k_here; (with_reducible show wpAny _ _ (subscriptTail _ _ (Value.ref _) _) _ _ _); refine Stop.out ?_))
local macro_rules | `(tactic| walk_at "subscriptTail Call Slice ref ref") => `(tactic| (k_here; refine Stop.out ?_))
theorem law_all : PySem.Challenge.rw_np0023_01.Holds := by
  refine Mine.hd ?_
  intro w s₀ s₁ mg mb G Y fa o pm cd doc dV kV ho hd hcd hD hmg hg args vals as Lz hpre hlay hrd hwl hlo
  have KX := heapK_of (InK.keeps w s₀.heap s₁.heap (X.z_facts (fun _ => by kernel_rfl) Y).2.1 Lz.keeps)
  clear Lz Y
  k_behind G ho hd hcd hD hmg hpre hlay hrd hwl hlo cd
  (all_goals try k_fold)
  k_steps
  refine Stop.of ?_
  rename News _ _ _ _ => N0x
  rename Shared => sB
  k_dflt (refine' pot_spec ?B ?F ?X ?N ?T ?hk ?hd ?hu ?hl ?hi ?hlen ?_; (case B => k_asm); (case F => k_asm); (case X => k_asm); (case N => k_asm); (case T => k_asm); (case hk => first | exact rfl | assumption); (case hd => decide); (case hu => decide); (case hl => k_asm); (case hi => assumption); (case hlen => omega))
  intro h' tk' p l st t u n n' vs' ns' hi1 hlen1 hst0 hst1 hpl hpn hln hK1 F1 N1
  (try dsimp only at hpn hln)
  have p2 := off_of N0x (.head _) hpn
  have p1 := off_of N0x (.tail _ (.head _)) hpn
  have l2 := off_of N0x (.head _) hln
  have l1 := off_of N0x (.tail _ (.head _)) hln
  (try dsimp only at p1 p2 l1 l2)
  (try dsimp only)
  (try k_fold)
  k_steps
  refine Stop.of ?_
  rename News _ _ _ _ => Na
  (try simp only [List.cons_append, List.nil_append] at Na)
  rename Fr _ _ _ _ => Fa

  k_dflt (refine' dip_spec ?B1 Fa ?X1 Na ?T1 ?hk1 ?hd1 ?hu1 ?U1 ?hl1 ?hi1 ?hlen1 ?h1 ?h2 ?h3 ?h4 ?hm1 ?hm2 ?_; (case B1 => k_asm); (case X1 => k_asm); (case T1 => k_asm); (case hk1 => first | exact rfl | assumption); (case hd1 => decide); (case hu1 => decide); (case U1 => k_updF); (case hl1 => k_mem); (case hi1 => assumption); (case hlen1 => assumption); (case h1 => omega); (case h2 => omega); (case h3 => omega); (case h4 => omega); (case hm1 => omega); (case hm2 => omega))
  intro h2' tk2' k2' t2' st2' t21' t22' hk21' hk22' hs21' hs22' hK2' F2' N2'
  (try dsimp only at N2'); (try dsimp only); (try k_fold)
  clear Fa Na
  k_steps
  rename News _ _ _ _ => Nb
  (try simp only [List.cons_append, List.nil_append] at Nb)
  rename Fr _ _ _ _ => Fb
  refine Stop.of ?_
  k_dflt (refine LCg.Assign_ListComp_U (F₀ := Fb) (by rfl) (by with_unfolding_all rfl) (by with_unfolding_all rfl) (by decide) (by rfl) (by decide) (by rfl) (by rfl) (by rfl) ?_)
  k_steps
  refine Stop.of ?_
  refine LCg.CompSrc.range (by rfl) (by k_asm) (by k_asm) (by assumption) (small_one (by omega) (by omega) (by omega) (by omega)) (rangeSize_nat _ _) (by rw [PySem.sizeLine_eq]; omega) ?_
  intro g'
  refine rest_inv (LawI p l k2' n n' vs' (sB.heap.objs.size + 1 + 1) (sB.heap.objs.size + 1)) ?_ ?_ _ _ _ _ ⟨[], st2', t21', t22', _, _, _, idx_0, hs21', hs22', rfl, rfl, by simp, by assumption, by assumption, rfl⟩
  case refine_2 =>
    intro k i ys news hI v' I' oI' C' oC' D' m' h' tk' E' hv' hC' hx' F' N' off' ne'
    (try (refine fold_ ?_; k_fold))
    obtain ⟨T, st, t, u, tq, oA, oB, hik, hst0, hst1, hT, hys, hok, hA, hB, hnews⟩ := hI
    subst hnews
    simp only [LCg.Off3] at off'
    k_steps
    refine Stop.of ?_
    have hTp : ∀ q ∈ tups T, q.1 ≠ p := fun q hq => by
      obtain ⟨r, hr, e⟩ := tups_mem hq
      rw [e]
      exact (hok r hr).1
    have o1 := off'.1
    have o2 := off'.2.2.1
    have o3 := off'.2.2.2.1
    have oT := off'.2.2.2.2
    have ol := off'.2.1
    refine line_spec (p := p) (l := l) (at_ := 1 + 2 * (i : Int)) (st := st) (t := t) (u := u) (n := n) (gf := fun o => (I', oI') :: (C', oC') :: (D', LCg.lst ys) :: (p, o) :: (l, W.listOf vs'.toArray n') :: (sB.heap.objs.size + 1 + 1, oA) :: (sB.heap.objs.size + 1, oB) :: tups T) (by k_asm) F' (by k_asm) N' (by k_asm) (by first | exact rfl | assumption) (by decide) (by decide) ?U2 (by k_mem) hi1 hlen1 at_ge (ile_ (at_le (idx_le hik hk22')) rfl) hst0 hst1 (many_ge hk21') (many_le hk22') ?ret2
    case U2 =>
      refine .tail (Ne.symm o1.1) (.tail (Ne.symm o1.2.1) (.tail (Ne.symm o1.2.2) (.head ?_)))
      intro q hq
      rcases List.mem_cons.mp hq with rfl | hq
      · exact fun e => hpl e.symm
      · rcases List.mem_cons.mp hq with rfl | hq
        · exact fun e => p2 e.symm
        · rcases List.mem_cons.mp hq with rfl | hq
          · exact fun e => p1 e.symm
          · exact hTp q hq
    case ret2 =>
      intro h3 tk3 q x kk t3 u3 st3 t31 t32 hok3 hst30 hst31 hK3 hq3 F3 N3
      dsimp only at N3 hq3
      have nq := fun z (hz : z ∈ _) => off_of (q := z) N' hz hq3
      have n1 := nq _ (.head _)
      have n2 := nq _ (.tail _ (.head _))
      have n3 := nq _ (.tail _ (.tail _ (.head _)))
      have n4 := nq _ (.tail _ (.tail _ (.tail _ (.head _))))
      dsimp only at n1 n2 n3 n4
      have sub9 : ∀ z ∈ (I', oI') :: (C', oC') :: (D', LCg.lst ys) :: ((p, potObj l (1 + 2 * (i : Int) + 2) st3 t31 t32 n) :: (l, W.listOf vs'.toArray n') :: (sB.heap.objs.size + 1 + 1, oA) :: (sB.heap.objs.size + 1, oB) :: tups (T ++ [(q, (x, kk), t3, u3)])), z ∈ (q, tupObj x kk t3 u3) :: (I', oI') :: (C', oC') :: (D', LCg.lst ys) :: (p, potObj l (1 + 2 * (i : Int) + 2) st3 t31 t32 n) :: (l, W.listOf vs'.toArray n') :: (sB.heap.objs.size + 1 + 1, oA) :: (sB.heap.objs.size + 1, oB) :: tups T := by
        intro z hz
        rw [tups_snoc] at hz
        simp only [List.mem_cons, tupOf] at hz ⊢
        rcases hz with h | h | h | h | h | h | h | h | h <;> simp [h]
      (try (k_unfold; (try dsimp only)))
      refine LCg.CompEnd.intro F3 N3 _ sub9 ?off9 trivial ?rest9
      case off9 =>
        rw [tups_snoc]
        exact ⟨o1, ol, o2, o3, ⟨n1, n2, n3⟩, oT⟩
      case rest9 =>
        refine ⟨T ++ [(q, (x, kk), t3, u3)], st3, t31, t32, tq, oA, oB, idx_next hik, hst30, hst31, by rw [List.length_append, hT]; rfl, by rw [hys, List.map_append]; rfl, ?_, hA, hB, ?_⟩
        · intro r hr
          rcases List.mem_append.mp hr with hr | hr
          · exact hok r hr
          · rw [List.mem_singleton.mp hr]
            exact ⟨n4, hok3⟩
        · rw [at_next]
  intro i ys news hI
  unfold LCg.FinA
  intro D h5 tk5 F5 N5 off5
  (try dsimp only)
  (try (refine fold_ ?_; k_fold))
  obtain ⟨T, st, t, u, tq, oA, oB, hik, hst0, hst1, hT, hys, hok, hA, hB, hnews⟩ := hI
  subst hnews
  have hC5 : CodeAt h5 D (T.map (·.2.1)) := code_of_tups N5 (.head _) hys fun q hq => .tail _ (.tail _ (.tail _ (.tail _ (.tail _ hq))))
  have hTl : T.length = (1 + k2').toNat := idx_end hik hT
  have hati := at_le (idx_le hik hk22')
  clear hik
  obtain ⟨c, hc⟩ : ∃ c, c = T.map (·.2.1) := ⟨_, rfl⟩
  rw [← hc] at hC5
  have cAt : ∀ {g h : Heap} {L : Addr} {news : List (Addr × Obj)}, News g L h ((D, LCg.lst ys) :: news) → (∀ q ∈ tups T, q ∈ news) → CodeAt h D c := fun N hq => hc ▸ code_of_tups N (.head _) hys fun q h => .tail _ (hq q h)
  have hcl : c.length = (1 + k2').toNat := by rw [hc, List.length_map, hTl]
  have hck : ∀ r ∈ c, InsOk (1 + k2') r := by
    intro r hr
    rw [hc] at hr
    obtain ⟨q, hq, rfl⟩ := List.mem_map.mp hr
    exact (hok q hq).2
  have hc8 : c.length ≤ 8 := num_le hcl hk22'
  have hc1 : 1 ≤ c.length := num_ge hcl hk21'
  have hcw : AllWritten c := ⟨le_ hc8 rfl, fun r hr => ins_written (hck r hr) (ile_ (many_le hk22') rfl)⟩
  (try dsimp only)
  k_steps
  refine Stop.of ?_
  refine text_spec (c := c) (by k_asm) F5 (by k_asm) N5 (by k_asm) (by first | exact rfl | assumption) (by decide) (by decide) hC5 (written_good hcw) ?ret3
  intro h6 tk6 t6 hK6 F6 N6'
  (try dsimp only)
  k_steps
  refine Stop.of ?_
  have hclen := code_length hcw
  have hxl : (codeText c).length ≤ 9000 := Nat.le_trans hclen (Nat.le_trans (Nat.mul_le_mul_left _ hc8) (Nat.le_of_ble_eq_true rfl))
  have hxo := code_ok hcw
  have hsp := split_code hcw
  have hspl : (Txt.split (codeText c) (Str.ofString "\n")).length = c.length + 1 := by rw [hsp, List.length_append, lines_length]; rfl
  have hspl9 : (Txt.split (codeText c) (Str.ofString "\n")).length ≤ 60 := hspl ▸ le1_ hc8 rfl
  have hspl2 : 2 ≤ (Txt.split (codeText c) (Str.ofString "\n")).length := hspl ▸ Nat.succ_le_succ hc1
  have hcW := (written_good hcw).words
  rename Fr _ _ _ _ => F6x
  rename News _ _ _ _ => N6y
  refine read_spec (by k_asm) F6x (by k_asm) N6y (by k_asm) (by first | exact rfl | assumption) (by decide) (by decide) (le_ hxl rfl) hxo hspl9 ?ret4 ?bad4
  case bad4 => exact fun hn => absurd (parses_code hcw) (hn _)
  intro h7 tk7 D7 rs7 hP7 hC7 hK7 F7 N7
  rw [parses_own hcw hP7] at hC7
  (try dsimp only at hC7)
  (try dsimp only)
  k_steps
  refine Stop.of (ne_code hC7 (cAt N7 fun q hq => .tail _ (.tail _ (.tail _ (.tail _ hq)))) hcW hcW (by rw [units_deeper]; decide) ?_)
  rw [decide_eq_true (rfl : c = c)]
  k_steps
  refine Stop.of ?_
  refine read_spec (by k_asm) F7 (by k_asm) N7 (by k_asm) (by first | exact rfl | assumption) (by decide) (by decide) (le_ hxl rfl) hxo hspl9 ?ret5 ?bad5
  case bad5 => exact fun hn => absurd (parses_code hcw) (hn _)
  intro h8 tk8 D8 rs8 hP8 hC8 hK8 F8 N8
  rw [parses_own hcw hP8] at hC8
  (try dsimp only at hC8)
  (try dsimp only)
  k_steps
  refine Stop.of ?_
  refine text_spec (c := c) (by k_asm) F8 (by k_asm) N8 (by k_asm) (by first | exact rfl | assumption) (by decide) (by decide) hC8 (written_good hcw) ?ret6
  intro h9 tk9 t9 hK9 F9 N9
  (try dsimp only)
  k_steps
  refine Stop.of ?_
  refine split_made (y := ⟨#[Int.toNat 10]⟩) (by assumption) (by assumption) (by decide) ?_ (by rw [sizeLine_eq]; omega)
  intro D1 lv h₂ tk₂ hS F₂ N₂ l₂
  k_lt l₂
  replace hS : StrsAre lv (Txt.split (codeText c) (Str.ofString "\n")) := by rw [nl_is]; exact hS
  rw [hsp] at hS
  rcases PyProof.Rows.strs_nil_or_snoc hS with ⟨rfl, e⟩ | ⟨vi, yi, y, t', rfl, hsp', hSi⟩
  · exact absurd e (by simp)
  obtain ⟨rfl, _⟩ := List.append_inj' hsp' rfl
  have hvil := hSi.length
  rw [lines_length] at hvil
  have hvi8 : vi.length ≤ 8 := hvil ▸ hc8
  k_steps
  refine Stop.of ?_
  refine kba_turn (value' := PySem.Expr.Name (Str.ofString "_") ⟨0, 0, 0, 0⟩) (fun _ => rfl) ?_
  k_dflt (refine' kmk_slice_lit ?F7 ?N7 ?l7 ?p7 ?q7 ?e7 ?_ ?s7 ?t7 ?z7; (case F7 => k_asm); (case N7 => k_asm); (case l7 => exact News.isList (by k_asm) (by k_mem)); (case p7 => kmk_part); (case q7 => kmk_part); (case e7 => exact pick_init _); (case s7 => with_unfolding_all rfl); (case t7 => kmk_pure); (case z7 => (rw [List.size_toArray, List.length_append, sizeLine_eq]; simp only [List.length_singleton]; omega)))
  intro D2 h10 F10 N10 l10
  k_lt l10
  k_steps
  refine Stop.of ?_
  obtain ⟨mF, hmF, F11⟩ := fr_name F10
  have N11 : News _ _ _ ((D2, W.listOf vi.toArray 0) :: (D, LCg.lst ys) :: (p, potObj l (1 + 2 * (i : Int)) st t u n) :: (l, W.listOf vs'.toArray n') :: (sB.heap.objs.size + 1 + 1, oA) :: (sB.heap.objs.size + 1, oB) :: tups T) := fun q hq => N10 q (by
    rcases List.mem_cons.mp hq with h | h
    · exact h ▸ .head _
    · exact .tail _ (.tail _ h))
  refine enum_list rfl F11 N11 (fun _ m₁ news₁ => news₁ = (D2, W.listOf vi.toArray 0) :: (D, LCg.lst ys) :: (p, potObj l (1 + 2 * (i : Int)) st t u n) :: (l, W.listOf vs'.toArray n') :: (sB.heap.objs.size + 1 + 1, oA) :: (sB.heap.objs.size + 1, oB) :: tups T ∧
      ∀ z, [Str.ofString "place", Str.ofString "row", Str.ofString "meets_it"].contains z = false → m₁ z = mF z) ⟨rfl, fun _ _ => rfl⟩ (.inr ⟨0, .head _, ?_⟩) ?_ ?_
  · rintro i2 m2 news2 ⟨rfl, _⟩
    exact .head _
  · intro j v Tt tt m₁ news₁ h₁ tk₁ own hv hJ hoff Fa Na hTt
    (try (refine fold_ ?_; k_fold))
    obtain ⟨rfl, hm⟩ := hJ
    have hj : j < vi.length := (List.getElem?_eq_some_iff.mp hv).1
    obtain ⟨row, rt, rfl, hrow⟩ := strs_get hSi hv
    rw [map_form _ hm, hmF] at Fa
    simp only [List.cons_append, List.nil_append] at Na
    refine unpackN_ Fa Na hTt rfl rfl rfl fun h₂ Fb' Nb' => ?_
    clear F11 N11 F10 N10 F₂ N₂ hC8 hC7 hC5
    (try clear N9 F9)
    (try clear N8 F8)
    (try clear N7 F7)
    clear Fa Na
    k_steps
    refine Stop.of ?_
    have hysl : ys.length = c.length := by rw [hys, hc, List.length_map, List.length_map]
    have hysz : ys.length ≤ sizeLine := hysl ▸ Nat.le_trans hc8 (sizeLine_eq ▸ Nat.le_of_ble_eq_true rfl)
    refine comp_pairs (l := D) (vs := ys) (cc := c) (fun x => x == Str.ofString "goto" || (x == Str.ofString "gotoifnil" || x == Str.ofString "pushcatch")) rfl (by assumption) (by assumption) (by with_unfolding_all rfl) (by decide) rfl (by decide) rfl rfl (by decide) (.tail _ (.head _)) hysl hysz ?htup ?hit ?htest ?helt ?_
    case htup =>
      intro i3 y3 k3 h3
      obtain ⟨a3, t3, u3, q1, q2⟩ := tups_get hys hc i3 y3 k3 h3
      exact ⟨a3, t3, u3, q1, .tail _ (.tail _ (.tail _ (.tail _ (.tail _ (.tail _ (List.mem_append_left _ q2))))))⟩
    case hit =>
      intro Q' hQ'
      k_steps
      exact hQ'
    case htest =>
      intro C s3 m3 y3 t3 E' h1 h2
      exact word_test rfl h1 h2
    case helt =>
      intro C s3 m3 k3 u3 E' h1 h2
      exact wpAny_Name (wpAny_loadName_local rfl rfl h1 h2 ⟨⟨_, rfl⟩, _, _, rfl, fun _ _ e => e⟩)
    intro D3 h12 tk12 zs F12 N12 hz12
    obtain ⟨zn, hzn⟩ : ∃ zn, zn = List.map (fun x : Str × Int => x.2) (List.filter (fun i : Str × Int => i.1 == Str.ofString "goto" || (i.1 == Str.ofString "gotoifnil" || i.1 == Str.ofString "pushcatch")) c) := ⟨_, rfl⟩
    rw [← hzn] at hz12
    have hany : (zn.any fun x => x == (j : Int)) = starred c j := by
      rw [hzn, List.any_map, List.any_filter]
      unfold starred
      refine any_same fun q hq => ?_
      rw [ins_jump (hck q hq)]
      rfl
    have hjc : j < c.length := by rw [← hvil]; exact hj
    have hrowe : row = lineText (starred c j) j (c[j]).1 (c[j]).2 := by
      have e : c[j]? = some ((c[j]).1, (c[j]).2) := List.getElem?_eq_getElem hjc
      have := lines_get e
      rw [hrow] at this
      exact Option.some.inj this
    obtain ⟨hr1, hitem⟩ := line_star (starred c j) j (hcw.2 c[j] (List.getElem_mem hjc))
    rw [← hrowe] at hr1 hitem
    (try dsimp only)
    k_steps
    all_goals first
      | (exfalso
         rename (List.any _ _) = _ => hb1
         rename ((_ : Str) != _) = true => hb2
         rw [hany] at hb1
         rw [hitem, hb1] at hb2
         exact absurd hb2 (by decide))
      | (rename News _ _ _ _ => Ne
         rename Fr _ _ _ _ => Fe
         refine ⟨_, _, _, (D2, W.listOf vi.toArray 0) :: (D, LCg.lst ys) :: (p, potObj l (1 + 2 * (i : Int)) st t u n) :: (l, W.listOf vs'.toArray n') :: (sB.heap.objs.size + 1 + 1, oA) :: (sB.heap.objs.size + 1, oB) :: tups T, rfl, Fe, fun q hq => Ne q (List.mem_cons_of_mem _ hq), hoff, rfl, ?_⟩
         intro z hz
         have z1 : z ≠ Str.ofString "meets_it" := fun e => by rw [e] at hz; exact absurd hz (by decide)
         have z2 : z ≠ Str.ofString "row" := fun e => by rw [e] at hz; exact absurd hz (by decide)
         have z3 : z ≠ Str.ofString "place" := fun e => by rw [e] at hz; exact absurd hz (by decide)
         rw [hmF]
         show (if z = _ then _ else if z = _ then _ else if z = _ then _ else if _ = true then _ else _) = _
         rw [if_neg z1, if_neg z2, if_neg z3, if_neg (by rw [hz]; decide)])
  · intro h13 tk13 m13 news13 F13 N13 hJ
    (try (refine fold_ ?_; k_fold))
    obtain ⟨rfl, hm13⟩ := hJ
    rw [map_form _ hm13, hmF] at F13
    k_steps
    refine Stop.of ?_
    have hpD : @Ne Nat p D := off5.1
    have hpD2 : p < D2 := l10.2.2.1
    refine spoilt_spec (p := p) (l := l) (at_ := 1 + 2 * (i : Int)) (st := st) (t := t) (u := u) (n := n) (gf := fun o => (D2, W.listOf vi.toArray 0) :: (D, LCg.lst ys) :: (p, o) :: (l, W.listOf vs'.toArray n') :: (sB.heap.objs.size + 1 + 1, oA) :: (sB.heap.objs.size + 1, oB) :: tups T) (by k_asm) F13 (by k_asm) N13 (by k_asm) (by first | exact rfl | assumption) (by decide) (by decide) ?U8 (by k_mem) hi1 hlen1 at_ge hati hst0 hst1 hxl hxo hspl9 hspl2 (code_digit hcw hc1) ?ret8
    case U8 =>
      refine .tail (Nat.ne_of_gt hpD2) (.tail (Ne.symm hpD) (.head ?_))
      intro q hq
      rcases List.mem_cons.mp hq with rfl | hq
      · exact fun e => hpl e.symm
      · rcases List.mem_cons.mp hq with rfl | hq
        · exact fun e => p2 e.symm
        · rcases List.mem_cons.mp hq with rfl | hq
          · exact fun e => p1 e.symm
          · obtain ⟨r, hr, e⟩ := tups_mem hq
            rw [e]
            exact (hok r hr).1
    case ret8 =>
      intro h14 tk14 y8 ty8 hSp hK14 F14
      have N14 : News _ _ h14 ((D, LCg.lst ys) :: tups T) := LCg.news_but (fun q hq => N13 q (by
          rcases List.mem_cons.mp hq with h | h
          · exact h ▸ .tail _ (.head _)
          · exact .tail _ (.tail _ (.tail _ (.tail _ (.tail _ (.tail _ h))))))) (I := p) (fun b o hb e => hK14 b o e hb) (fun q hq => by
        rcases List.mem_cons.mp hq with rfl | hq
        · exact Ne.symm hpD
        · obtain ⟨r, hr, e⟩ := tups_mem hq
          rw [e]
          exact (hok r hr).1)
      clear F13 N13
      (try dsimp only)
      k_steps
      refine Stop.of ?_
      obtain ⟨e0, e1, e2, e3⟩ := id hSp
      refine back_spec (by k_asm) F14 (by k_asm) (by k_asm) (by first | exact rfl | assumption) (by decide) (by decide) e1 e2 e3 ?ret9 ?none9
      case ret9 =>
        intro h15 tk15 D15 rs15 hP15 hC15 hK15 hU15
        have F15 := fr_slots F14 hK15 hU15
        have N15 := news_slots N14 hK15
        (try dsimp only at F15 N15 hC15)
        clear F14 N14
        (try dsimp only)
        k_steps
        refine Stop.of (ne_code hC15 (cAt N15 fun q hq => hq) (parses_words hP15) hcW (by rw [units_deeper]; decide) ?_)
        rw [decide_eq_false (parses_other e0 hP15)]
        k_steps
      case none9 =>
        intro h15 tk15 hP15 hK15 hU15
        have F15 := fr_slots F14 hK15 hU15
        have N15 := news_slots N14 hK15
        (try dsimp only at F15 N15)
        clear F14 N14
        (try dsimp only)
        k_steps
        refine ne_none (cAt N15 fun q hq => hq) hcW (by rw [units_deeper]; decide) ?_
        k_steps
end


end Mine
set_option maxRecDepth 100000 in
set_option maxHeartbeats 8000000 in
theorem PySem.Challenge.cw_np0023_01_holds : PySem.Challenge.rw_np0023_01.Holds := by
  exact Mine.law_all
