import PyProof.Rows.All
import Wide.All
import OpenK.AllK
import Wide.FinOn
import KE.KStateDown
import Lean
import HandS.ForMost
import HandS.IsInst
import HandS.Defaults
import HandS.Head0
import HandS.Head1
import HandS.Head2
import HandS.HeadEnd
import HandS.HeadHook1
import HandS.HeadHook2
import HandS.Evl
import PySem.Challenge.RW_worntally_k75_lists_within_lists
set_option Elab.async false
set_option linter.all false
set_option maxRecDepth 100000
set_option maxHeartbeats 4000000
namespace K75
open PySem PySem.Spec PyProof.Rows L2
def top (i : Nat) : Stmt := PySem.Challenge.pw_worntally_k75_lists_within_lists.main.body.getD i (.Pass ⟨0, 0, 0, 0⟩)
abbrev s_is_listed : Stmt := top 2
abbrev s_Paper_bool : Stmt := inClass (top 5) 2
abbrev s_Paper_repr : Stmt := inClass (top 5) 3
abbrev s_copy_of : Stmt := top 6
abbrev s_row_copy : Stmt := top 7
abbrev s_Safe_init : Stmt := inClass (top 8) 1
abbrev s_Safe_table : Stmt := inClass (top 8) 2
abbrev s_Harmed_init : Stmt := inClass (top 9) 1
abbrev s_Harmed_events : Stmt := inClass (top 9) 2
abbrev s_Bounded_init : Stmt := inClass (top 11) 1
abbrev s_Bounded_greatest : Stmt := inClass (top 11) 2
abbrev s_Bounded_events : Stmt := inClass (top 11) 3
abbrev s_Bounded_standings : Stmt := inClass (top 11) 4
abbrev s_Bounded_heights : Stmt := inClass (top 11) 5
abbrev s_Endless_init : Stmt := inClass (top 12) 1
abbrev s_Endless_lead : Stmt := inClass (top 12) 2
abbrev s_Endless_ring : Stmt := inClass (top 12) 3
abbrev s_Endless_tail : Stmt := inClass (top 12) 4
abbrev s_Even_init : Stmt := inClass (top 14) 1
abbrev s_Even_greatest : Stmt := inClass (top 14) 2
abbrev s_Even_events : Stmt := inClass (top 14) 3
abbrev s_Uneven_init : Stmt := inClass (top 15) 1
abbrev s_Uneven_lead : Stmt := inClass (top 15) 2
abbrev s_Uneven_ring : Stmt := inClass (top 15) 3
abbrev s_Alike_init : Stmt := inClass (top 17) 1
abbrev s_Alike_pairs : Stmt := inClass (top 17) 2
abbrev s_Unlike_init : Stmt := inClass (top 18) 1
abbrev s_Unlike_heard : Stmt := inClass (top 18) 2
abbrev s_Least_init : Stmt := inClass (top 20) 1
abbrev s_Least_size : Stmt := inClass (top 20) 2
abbrev s_Least_foes : Stmt := inClass (top 20) 3
abbrev s_law_bag : Stmt := top 22
abbrev s_law_take : Stmt := top 23
abbrev s_law_same : Stmt := top 24
abbrev s_law : Stmt := top 25
def d_is_listed : He.DefD := ⟨("is_listed", none), "is_listed", "is_listed", defArgs s_is_listed, defBody s_is_listed, defScope s_is_listed, [], []⟩
def d_Paper_bool : He.DefD := ⟨("Paper", some "__bool__"), "__bool__", "Paper.__bool__", defArgs s_Paper_bool, defBody s_Paper_bool, defScope s_Paper_bool, [], []⟩
def d_Paper_repr : He.DefD := ⟨("Paper", some "__repr__"), "__repr__", "Paper.__repr__", defArgs s_Paper_repr, defBody s_Paper_repr, defScope s_Paper_repr, [], []⟩
def d_copy_of : He.DefD := ⟨("copy_of", none), "copy_of", "copy_of", defArgs s_copy_of, defBody s_copy_of, defScope s_copy_of, [], []⟩
def d_row_copy : He.DefD := ⟨("row_copy", none), "row_copy", "row_copy", defArgs s_row_copy, defBody s_row_copy, defScope s_row_copy, [], []⟩
def d_Safe_init : He.DefD := ⟨("Safe", some "__init__"), "__init__", "Safe.__init__", defArgs s_Safe_init, defBody s_Safe_init, defScope s_Safe_init, [], []⟩
def d_Safe_table : He.DefD := ⟨("Safe", some "table"), "table", "Safe.table", defArgs s_Safe_table, defBody s_Safe_table, defScope s_Safe_table, [], []⟩
def d_Harmed_init : He.DefD := ⟨("Harmed", some "__init__"), "__init__", "Harmed.__init__", defArgs s_Harmed_init, defBody s_Harmed_init, defScope s_Harmed_init, [], []⟩
def d_Harmed_events : He.DefD := ⟨("Harmed", some "events"), "events", "Harmed.events", defArgs s_Harmed_events, defBody s_Harmed_events, defScope s_Harmed_events, [], []⟩
def d_Bounded_init : He.DefD := ⟨("Bounded", some "__init__"), "__init__", "Bounded.__init__", defArgs s_Bounded_init, defBody s_Bounded_init, defScope s_Bounded_init, [], []⟩
def d_Bounded_events : He.DefD := ⟨("Bounded", some "events"), "events", "Bounded.events", defArgs s_Bounded_events, defBody s_Bounded_events, defScope s_Bounded_events, [], []⟩
def d_Bounded_standings : He.DefD := ⟨("Bounded", some "standings"), "standings", "Bounded.standings", defArgs s_Bounded_standings, defBody s_Bounded_standings, defScope s_Bounded_standings, [], []⟩
def d_Bounded_heights : He.DefD := ⟨("Bounded", some "heights"), "heights", "Bounded.heights", defArgs s_Bounded_heights, defBody s_Bounded_heights, defScope s_Bounded_heights, [], []⟩
def d_Endless_init : He.DefD := ⟨("Endless", some "__init__"), "__init__", "Endless.__init__", defArgs s_Endless_init, defBody s_Endless_init, defScope s_Endless_init, [], []⟩
def d_Endless_lead : He.DefD := ⟨("Endless", some "lead"), "lead", "Endless.lead", defArgs s_Endless_lead, defBody s_Endless_lead, defScope s_Endless_lead, [], []⟩
def d_Endless_ring : He.DefD := ⟨("Endless", some "ring"), "ring", "Endless.ring", defArgs s_Endless_ring, defBody s_Endless_ring, defScope s_Endless_ring, [], []⟩
def d_Endless_tail : He.DefD := ⟨("Endless", some "tail"), "tail", "Endless.tail", defArgs s_Endless_tail, defBody s_Endless_tail, defScope s_Endless_tail, [], []⟩
def d_Even_init : He.DefD := ⟨("Even", some "__init__"), "__init__", "Even.__init__", defArgs s_Even_init, defBody s_Even_init, defScope s_Even_init, [], []⟩
def d_Even_events : He.DefD := ⟨("Even", some "events"), "events", "Even.events", defArgs s_Even_events, defBody s_Even_events, defScope s_Even_events, [], []⟩
def d_Uneven_init : He.DefD := ⟨("Uneven", some "__init__"), "__init__", "Uneven.__init__", defArgs s_Uneven_init, defBody s_Uneven_init, defScope s_Uneven_init, [], []⟩
def d_Uneven_lead : He.DefD := ⟨("Uneven", some "lead"), "lead", "Uneven.lead", defArgs s_Uneven_lead, defBody s_Uneven_lead, defScope s_Uneven_lead, [], []⟩
def d_Uneven_ring : He.DefD := ⟨("Uneven", some "ring"), "ring", "Uneven.ring", defArgs s_Uneven_ring, defBody s_Uneven_ring, defScope s_Uneven_ring, [], []⟩
def d_Alike_init : He.DefD := ⟨("Alike", some "__init__"), "__init__", "Alike.__init__", defArgs s_Alike_init, defBody s_Alike_init, defScope s_Alike_init, [], []⟩
def d_Alike_pairs : He.DefD := ⟨("Alike", some "pairs"), "pairs", "Alike.pairs", defArgs s_Alike_pairs, defBody s_Alike_pairs, defScope s_Alike_pairs, [], []⟩
def d_Unlike_init : He.DefD := ⟨("Unlike", some "__init__"), "__init__", "Unlike.__init__", defArgs s_Unlike_init, defBody s_Unlike_init, defScope s_Unlike_init, [], []⟩
def d_Unlike_heard : He.DefD := ⟨("Unlike", some "heard"), "heard", "Unlike.heard", defArgs s_Unlike_heard, defBody s_Unlike_heard, defScope s_Unlike_heard, [], []⟩
def d_Least_init : He.DefD := ⟨("Least", some "__init__"), "__init__", "Least.__init__", defArgs s_Least_init, defBody s_Least_init, defScope s_Least_init, [], []⟩
def d_Least_foes : He.DefD := ⟨("Least", some "foes"), "foes", "Least.foes", defArgs s_Least_foes, defBody s_Least_foes, defScope s_Least_foes, [], []⟩
def d_law_bag : He.DefD := ⟨("_law_bag", none), "_law_bag", "_law_bag", defArgs s_law_bag, defBody s_law_bag, defScope s_law_bag, [], []⟩
def d_law_take : He.DefD := ⟨("_law_take", none), "_law_take", "_law_take", defArgs s_law_take, defBody s_law_take, defScope s_law_take, [], []⟩
def d_law_same : He.DefD := ⟨("_law_same", none), "_law_same", "_law_same", defArgs s_law_same, defBody s_law_same, defScope s_law_same, [], []⟩
def d_law : He.DefD := ⟨("law", none), "law", "law", defArgs s_law, defBody s_law, defScope s_law, [], []⟩
def fn : List He.DefD := [d_is_listed, d_Paper_bool, d_Paper_repr, d_copy_of, d_row_copy, d_Safe_init, d_Safe_table, d_Harmed_init, d_Harmed_events, d_Bounded_init, d_Bounded_events, d_Bounded_standings, d_Bounded_heights, d_Endless_init, d_Endless_lead, d_Endless_ring, d_Endless_tail, d_Even_init, d_Even_events, d_Uneven_init, d_Uneven_lead, d_Uneven_ring, d_Alike_init, d_Alike_pairs, d_Unlike_init, d_Unlike_heard, d_Least_init, d_Least_foes, d_law_bag, d_law_take, d_law_same, d_law]
def fa : List He.Fa := [.glo "is_listed", .glo "copy_of", .glo "row_copy", .glo "_law_bag", .glo "_law_take", .glo "_law_same", .glo "law", .glo "Paper", .cls "Paper", .keep "Paper", .meth "Paper" "__bool__", .meth "Paper" "__repr__", .glo "Safe", .cls "Safe", .keep "Safe", .noat "Safe" "own_table", .mkr "Safe", .meth "Safe" "table", .glo "Harmed", .cls "Harmed", .keep "Harmed", .noat "Harmed" "own_events", .mkr "Harmed", .meth "Harmed" "events", .glo "Bounded", .cls "Bounded", .keep "Bounded", .noat "Bounded" "own_most", .noat "Bounded" "own_events", .noat "Bounded" "own_standings", .noat "Bounded" "own_heights", .mkr "Bounded", .meth "Bounded" "events", .meth "Bounded" "standings", .meth "Bounded" "heights", .glo "Endless", .cls "Endless", .keep "Endless", .noat "Endless" "own_parts", .mkr "Endless", .meth "Endless" "lead", .meth "Endless" "ring", .meth "Endless" "tail", .glo "Even", .cls "Even", .keep "Even", .noat "Even" "own_most", .noat "Even" "own_events", .mkr "Even", .meth "Even" "events", .glo "Uneven", .cls "Uneven", .keep "Uneven", .noat "Uneven" "own_parts", .mkr "Uneven", .meth "Uneven" "lead", .meth "Uneven" "ring", .glo "Alike", .cls "Alike", .keep "Alike", .noat "Alike" "own_pairs", .mkr "Alike", .meth "Alike" "pairs", .glo "Unlike", .cls "Unlike", .keep "Unlike", .noat "Unlike" "own_heard", .mkr "Unlike", .meth "Unlike" "heard", .glo "Least", .cls "Least", .keep "Least", .noat "Least" "own_size", .noat "Least" "own_foes", .mkr "Least", .meth "Least" "foes", .free "all", .free "bool", .free "int", .free "isinstance", .free "len", .free "list", .free "property", .free "range", .free "str", .free "tuple"]
abbrev R : PySem.W.OpenRow := PySem.W.OpenLaw.row PySem.Challenge.rw_worntally_k75_lists_within_lists
abbrev hk : PySem.W.Hook := He.hookD 5 fa fn
def ob (s : PySem.W.SharedT) : He.AlD := He.obsDG 5 fa fn (HandSHeadRun.getT s)
theorem ob_eq (s : PySem.W.SharedT) : ob s = hk.obs s.abs := He.obsDG_eq (HandSHeadRun.getT_eq s)
def loose0 : List Str := ["_wall", "is_listed", "MOST_STANDINGS", "Paper", "copy_of", "row_copy", "Safe", "Harmed", "Bounded", "Endless", "Even", "Uneven", "Alike", "Unlike", "Least", "_law_bag", "_law_take", "_law_same"]
def loose : List Str := loose0
theorem run (w : World) : HandSHeadRun.RunEq R (PySem.W.view R.prog [25]) hk ob 6000 loose w := by
  intro os
  kernel_rfl
end K75

set_option maxHeartbeats 4000000
namespace K75
open PySem PySem.Spec PyProof.Rows L2
section
variable {P : Program} {w : World} {K : PySem.W.Frag} {mg : Str → Option Value} {base : Heap}
/-- a def without defaults, at its address, keeps its promise -/
def OkF (P : Program) (w : World) (K : PySem.W.Frag) (mg : Str → Option Value) (base : Heap) (k : Nat) (f : Addr) (ps : List Str) (sp : Sp) : Prop :=
  ∃ fd, FnOk P w K mg base CX0 k f fd ps sp ∧ Binds K fd ps []
abbrev FnP (K : PySem.W.Frag) (x qual : Str) (st : Stmt) (f : Addr) : Prop := ∃ fd, FunD K x qual (defArgs st) (defBody st) (defScope st) [] [] f fd

/-! ### the bag -/
def bagL (c : Addr) (i r x k : Int) : HO := .lst [.ref c, .int i, .int r, .int x, .int k]
structure BagAt (H : Hp) (p c : Addr) (n : Nat) (i r x k : Int) : Prop where
  hb : H p = some (bagL c i r x k)
  hc : ∃ ns : List Int, H c = some (.lst (ns.map V.int)) ∧ ns.length = n
  i0 : 0 ≤ i
  i1 : i ≤ n
  r0 : 0 ≤ r
  x0 : 0 ≤ x
  x1 : x < 2147483629
  k0 : 0 ≤ k
def spBag (K : PySem.W.Frag) : Sp := fun vs H Q _ => ∃ (a : Addr) (ns : List Int), vs = [.ref a] ∧ SqL K H a (ns.map V.int) ∧ ns.length ≤ 63 ∧
  ∀ (H' : Hp) (p c : Addr) (n : Nat) (x : Int), Same H H' → H p = none → H c = none → n ≤ 63 → BagAt H' p c n 0 0 x 0 → Q (.ref p) H'
theorem sc_bag : FnScope ["_law_script", "_law_seed", "_law_cell"] ["_law_script"] (defScope s_law_bag) := ⟨rfl, rfl, rfl, by decide +kernel, rfl, by decide +kernel, by decide +kernel⟩
theorem cut63 (ns : List Int) (h : ns.length ≤ 63) : cutV (ns.map V.int) none (some 63) = ns.map V.int := by
  unfold cutV
  have e1 : HT.sIx (ns.map V.int).length 0 none = 0 := rfl
  have e2 : HT.sIx (ns.map V.int).length (ns.map V.int).length (some 63) = min 63 (ns.map V.int).length := HT.sIx_nat _ _ 63
  rw [e1, e2, List.drop_zero]
  apply List.take_of_length_le
  rw [List.length_map]
  omega
theorem ok_bag (F : FnP K "_law_bag" "_law_bag" s_law_bag (He.ga K "_law_bag")) (mint : mg "int" = none) (mlist : mg "list" = none) :
    OkF P w K mg base 1 (He.ga K "_law_bag") ["_law_script"] (spBag K) := by
  obtain ⟨fd, F⟩ := F
  refine ⟨fd, F.ok sc_bag (fun vs H Q E h => ?_) (fun cdv A outer s H vs Q E hr h => ?_), F.bindsN fun _ _ _ _ _ _ us hl => match us, hl with | [_], _ => rfl⟩
  · obtain ⟨a, ns, rfl, _⟩ := h
    rfl
  · obtain ⟨a, ns, rfl, hS, hlen, k⟩ := h
    refine ⟨_, PSs.nox (pss_cons (ps_set (i := 1) sc_bag.nd rfl (Or.inl rfl) pe_int)
      (pss_cons (ps_for PassesOwn.never rfl (pi_list (pe_slice sl_list (pv 0) po_none (po_some pe_int))) (pg_name (i := 2) sc_bag.nd rfl (Or.inl rfl))
        (pss_one (ps_set (i := 1) sc_bag.nd rfl (Or.inl rfl) (pe_op op_mod (pe_callTy call_int1 rfl mint boot_int (pa_cons (pe_op op_add (pe_op op_add (pe_op op_mul (pv 1) pe_int)
          (pe_op op_mod (pe_callTy call_int1 rfl mint boot_int (pa_cons (pv 2) pa_nil)) pe_int)) pe_int) pa_nil)) pe_int))))
      (pss_one (ps_ret (pe_lst (pa_cons (pe_callTy call_list_of rfl mlist boot_list (pa_cons (pe_slice sl_list (pv 0) po_none (po_some pe_int)) pa_nil)) (pa_cons pe_int (pa_cons pe_int (pa_cons (pv 1) (pa_cons pe_int pa_nil)))))))))), ?_⟩
    -- seed = 10007; for cell in script[:63]
    refine ⟨_, rfl, _, rfl, a, _, rfl, hS, fun q hq => ?_⟩
    rw [cut63 ns hlen]
    have s1 : Same H (upd H q (.lst (ns.map V.int))) := fun b o e => by rw [upd_ne (ne_of_none e hq)]; exact e
    refine ⟨q, rfl, ⟨_, SqL.of upd_same⟩, for_list (K := K) (a := q) (xs := ns.map V.int) (fun i σ H2 => ∃ (x : Int) (v : Option V), σ = [some (.ref a), some (.int x), v] ∧ H2 = upd H q (.lst (ns.map V.int)) ∧ 0 ≤ x ∧ x < 2147483579)
      ⟨10007, none, rfl, rfl, by decide, by decide⟩ (fun i σ H2 _ ⟨_, _, _, e, _⟩ => by rw [e]; exact SqL.of upd_same) ?_ ?_⟩
    · rintro i y σ H2 hi ⟨x, v, rfl, rfl, h0, h1⟩
      obtain ⟨z, rfl⟩ : ∃ z, y = V.int z := by
        rw [List.getElem?_map] at hi
        cases e : ns[i]? with
        | none =>
          rw [e] at hi
          cases hi
        | some z =>
          rw [e] at hi
          exact ⟨z, (Option.some.inj hi).symm⟩
      refine ⟨_, rfl, _, _, rfl, rfl, .inl ⟨by omega, by omega⟩, _, rfl, .inl ⟨_, rfl, _, _, rfl, rfl, (by show (0 : Int) < 2147483563; decide), _, _, rfl, rfl, _, _, rfl, rfl, .inl ⟨_, rfl, _, _, rfl, rfl, (by show (0 : Int) < 2147483579; decide), ?_⟩⟩⟩
      exact ⟨_, _, rfl, rfl, Int.emod_nonneg _ (by decide), Int.emod_lt_of_pos _ (by decide)⟩
    · rintro σ H2 ⟨x, v, rfl, rfl, h0, h1⟩
      refine ⟨_, rfl, _, rfl, a, _, rfl, s1.seq hS, fun q2 hq2 => ?_⟩
      rw [cut63 ns hlen]
      refine ⟨q2, _, rfl, .inl (SqL.of upd_same), fun c hc => ?_⟩
      refine ⟨_, rfl, (by show 5 ≤ sizeLine; decide), fun p hp => ?_⟩
      have n1 : H q2 = none := s1.free hq2
      have s2 : Same H (upd (upd H q (.lst (ns.map V.int))) q2 (.lst (ns.map V.int))) := fun b o e => by rw [upd_ne (ne_of_none e n1)]; exact s1 b o e
      have n2 : H c = none := s2.free hc
      have s3 : Same H (upd (upd (upd H q (.lst (ns.map V.int))) q2 (.lst (ns.map V.int))) c (.lst (ns.map V.int))) := fun b o e => by rw [upd_ne (ne_of_none e n2)]; exact s2 b o e
      have n3 : H p = none := s3.free hp
      have cp : c ≠ p := ne_of_none upd_same hp
      refine k _ p c ns.length x (fun b o e => by rw [upd_ne (ne_of_none e n3)]; exact s3 b o e) n3 n2 hlen ⟨upd_same, ⟨ns, by rw [upd_ne cp, upd_same], rfl⟩, by decide, by omega, by decide, h0, by omega, by decide⟩
/-! ### a draw -/
def spTake : Sp := fun vs H Q _ => ∃ (p c : Addr) (n : Nat) (i r x k m : Int), vs = [.ref p, .int m] ∧ BagAt H p c n i r x k ∧ 0 < m ∧ m < 1000000 ∧ k < 1000000 ∧
  ∀ (H' : Hp) (d i' r' x' k' : Int), BagAt H' p c n i' r' x' k' → k' ≤ k + 1 → 0 ≤ d → d < m → (∀ b o, H b = some o → b ≠ p → H' b = some o) → (∀ b, H b = none → H' b = none) → Q (.int d) H'
theorem sc_take : FnScope ["_law_bag_here", "_law_many", "_law_cell", "_law_digit", "_law_blend"] ["_law_bag_here", "_law_many"] (defScope s_law_take) := ⟨rfl, rfl, rfl, by decide +kernel, rfl, by decide +kernel, by decide +kernel⟩
abbrev XT (P : Program) (w : World) (K : PySem.W.Frag) (mg : Str → Option Value) (base : Heap) (cdv : Value) (A : Around) (outer : List Env) (s : Shared) (H : Hp) (E : XK) : Cx :=
  (cxOf CX0 P w K mg base ["_law_bag_here", "_law_many", "_law_cell", "_law_digit", "_law_blend"] "_law_take" (defScope s_law_take) (He.ga K "_law_take") cdv A outer s H E).nox
structure Frm (p : Addr) (H H' : Hp) : Prop where
  same : ∀ b o, H b = some o → b ≠ p → H' b = some o
  free : ∀ b, H b = none → H' b = none
theorem Frm.refl (p : Addr) (H : Hp) : Frm p H H := ⟨fun _ _ e _ => e, fun _ e => e⟩
theorem Frm.upd {p : Addr} {H H' : Hp} {o u : HO} (f : Frm p H H') (h : H p = some u) : Frm p H (upd H' p o) :=
  ⟨fun b v e n => by rw [upd_ne n]; exact f.same b v e n, fun b e => by
    have n : b ≠ p := fun q => by rw [q, h] at e; cases e
    rw [upd_ne n]; exact f.free b e⟩
theorem Frm.trans {p : Addr} {H H1 H2 : Hp} (a : Frm p H H1) (b : Frm p H1 H2) : Frm p H H2 :=
  ⟨fun c o e n => b.same c o (a.same c o e n) n, fun c e => b.free c (a.free c e)⟩
theorem BagAt.ne {H : Hp} {p c : Addr} {n : Nat} {i r x k : Int} (B : BagAt H p c n i r x k) : c ≠ p := by
  obtain ⟨ns, h, _⟩ := B.hc
  refine ne_of h B.hb fun q => ?_
  have q : HO.lst (ns.map V.int) = HO.lst [.ref c, .int i, .int r, .int x, .int k] := q
  injection q with q
  cases ns with
  | nil => cases q
  | cons a l => injection q with q1 _; cases q1
theorem BagAt.to {H : Hp} {p c : Addr} {n : Nat} {i r x k i' r' x' k' : Int} (B : BagAt H p c n i r x k) (h1 : 0 ≤ i') (h2 : i' ≤ n) (h3 : 0 ≤ r') (h4 : 0 ≤ x') (h5 : x' < 2147483629) (h6 : 0 ≤ k') :
    BagAt (upd H p (bagL c i' r' x' k')) p c n i' r' x' k' := by
  obtain ⟨ns, e1, e2⟩ := B.hc
  exact ⟨upd_same, ⟨ns, by rw [upd_ne B.ne]; exact e1, e2⟩, h1, h2, h3, h4, h5, h6⟩
theorem take_tail (mint : mg "int" = none) (mlen : mg "len" = none) (cdv : Value) (A : Around) (outer : List Env) (s : Shared) (H0 : Hp) (E : XK) :
    ∃ t2, PSs (XT P w K mg base cdv A outer s H0 E) ((defBody s_law_take).drop 1) t2 ∧ ∀ (D : Ends) (H : Hp) (p c : Addr) (n : Nat) (i r x k m : Int) (v2 : Option V), BagAt H p c n i r x k → 0 < m → m < 1000000 → k < 1000000 →
      (∀ (H' : Hp) (d i' r' x' k' : Int), BagAt H' p c n i' r' x' k' → k' ≤ k + 1 → 0 ≤ d → d < m → Frm p H H' → D.rt (.int d) H') → t2 D [some (.ref p), some (.int m), v2, none, none] H := by
  refine ⟨_, pss_cons (ps_if (pt_cmpR op_gt (pe_ix ix_list (pv 0) pe_int (fun _ _ => rfl)) pe_int (nomark _))
          (pss_cons (ps_set (i := 3) sc_take.nd rfl (Or.inl rfl) (pe_op op_mod (pe_callTy call_int1 rfl mint boot_int (pa_cons (pe_ix ix_list (pv 0) pe_int (fun _ _ => rfl)) pa_nil)) (pv 1)))
          (pss_cons (ps_asg (pe_op op_fdiv (pe_callTy call_int1 rfl mint boot_int (pa_cons (pe_ix ix_list (pv 0) pe_int (fun _ _ => rfl)) pa_nil)) (pv 1)) (pg_sub (pv 0) pe_int set_list))
          (pss_one (ps_ret (pv 3)))))
          pss_nil)
      (pss_cons (ps_asg (pe_op op_add (pe_ix ix_list (pv 0) pe_int (fun _ _ => rfl)) pe_int) (pg_sub (pv 0) pe_int set_list))
      (pss_cons (ps_set (i := 4) sc_take.nd rfl (Or.inl rfl) (pe_op op_mod (pe_callTy call_int1 rfl mint boot_int (pa_cons (pe_op op_add (pe_ix ix_list (pv 0) pe_int (fun _ _ => rfl)) (pe_op op_mul (pe_ix ix_list (pv 0) pe_int (fun _ _ => rfl)) pe_int)) pa_nil)) pe_int))
      (pss_cons (ps_asg (pe_op op_mod (pe_callTy call_int1 rfl mint boot_int (pa_cons (pe_op op_add (pe_op op_add (pe_op op_pow (pv 4) pe_int) (pe_op op_mul pe_int (pv 4))) pe_int) pa_nil)) pe_int) (pg_sub (pv 0) pe_int set_list))
      (pss_one (ps_ret (pe_op op_mod (pe_callTy call_int1 rfl mint boot_int (pa_cons (pe_op op_add (pe_op op_fdiv (pe_ix ix_list (pv 0) pe_int (fun _ _ => rfl)) pe_int) (pe_op op_mul (pe_op op_mod (pe_callTy call_int1 rfl mint boot_int (pa_cons (pe_ix ix_list (pv 0) pe_int (fun _ _ => rfl)) pa_nil)) pe_int) pe_int)) pa_nil)) (pv 1))))))), fun D H p c n i r x k m v2 B hm hm2 hk Qk => ?_⟩
  have hb := B.hb
  refine ⟨_, rfl, p, _, _, _, rfl, rfl, SqL.of hb, (by rfl), _, _, rfl, rfl, _, rfl, ite2 (fun h1 => ?_) (fun h1 => ?_)⟩
  · have rp : 0 < r := by simpa using h1
    refine ⟨_, rfl, p, _, _, _, rfl, rfl, SqL.of hb, (by rfl), .inl ⟨_, rfl, _, rfl, _, _, rfl, rfl, hm, ?_⟩⟩
    refine ⟨_, rfl, p, _, _, _, rfl, rfl, SqL.of hb, (by rfl), .inl ⟨_, rfl, _, rfl, _, _, rfl, rfl, ⟨hm, by omega⟩, ?_⟩⟩
    refine ⟨_, rfl, p, _, _, 2, rfl, rfl, hb, (by rfl), ?_⟩
    exact ⟨_, rfl, Qk _ _ i (r / m) x k (B.to B.i0 B.i1 (Int.ediv_nonneg B.r0 (by omega)) B.x0 B.x1 B.k0) (by omega) (Int.emod_nonneg _ (by omega)) (Int.emod_lt_of_pos _ hm) ((Frm.refl p H).upd hb)⟩
  · refine ⟨_, rfl, p, _, _, _, rfl, rfl, SqL.of hb, (by rfl), _, _, rfl, rfl, _, rfl, p, _, _, 4, rfl, rfl, hb, (by rfl), ?_⟩
    have B1 : BagAt (upd H p (bagL c i r x (k + 1))) p c n i r x (k + 1) := B.to B.i0 B.i1 B.r0 B.x0 B.x1 (by have := B.k0; omega)
    have hb1 := B1.hb
    refine ⟨_, rfl, p, _, _, _, rfl, rfl, SqL.of hb1, (by rfl), _, rfl, p, _, _, _, rfl, rfl, SqL.of hb1, (by rfl), _, _, rfl, rfl, .inl ⟨by have := B.k0; omega, by omega⟩, _, _, rfl, rfl, .inl ⟨_, rfl, _, _, rfl, rfl, (by show (0 : Int) < 2147483629; decide), ?_⟩⟩
    have bl0 : 0 ≤ (x + (k + 1) * 6997) % 2147483629 := Int.emod_nonneg _ (by decide)
    have bl1 : (x + (k + 1) * 6997) % 2147483629 < 2147483629 := Int.emod_lt_of_pos _ (by decide)
    refine ⟨_, rfl, _, _, rfl, rfl, ⟨by decide, by decide, by omega⟩, _, rfl, _, _, rfl, rfl, .inl ⟨by decide, by decide⟩, _, _, rfl, rfl, _, _, rfl, rfl, .inl ⟨_, rfl, _, _, rfl, rfl, (by show (0 : Int) < 2147483629; decide), ?_⟩⟩
    have x20 : 0 ≤ ((((x + (k + 1) * 6997) % 2147483629) ^ (Int.toNat 3) + 41011 * ((x + (k + 1) * 6997) % 2147483629) + 1013) % 2147483629) := Int.emod_nonneg _ (by decide)
    have x21 : ((((x + (k + 1) * 6997) % 2147483629) ^ (Int.toNat 3) + 41011 * ((x + (k + 1) * 6997) % 2147483629) + 1013) % 2147483629) < 2147483629 := Int.emod_lt_of_pos _ (by decide)
    refine ⟨_, rfl, p, _, _, 3, rfl, rfl, hb1, (by rfl), ?_⟩
    have B2 : BagAt (upd (upd H p (bagL c i r x (k + 1))) p (bagL c i r ((((x + (k + 1) * 6997) % 2147483629) ^ (Int.toNat 3) + 41011 * ((x + (k + 1) * 6997) % 2147483629) + 1013) % 2147483629) (k + 1))) p c n i r ((((x + (k + 1) * 6997) % 2147483629) ^ (Int.toNat 3) + 41011 * ((x + (k + 1) * 6997) % 2147483629) + 1013) % 2147483629) (k + 1) := B1.to B1.i0 B1.i1 B1.r0 x20 x21 B1.k0
    have hb2 := B2.hb
    refine ⟨_, rfl, p, _, _, _, rfl, rfl, SqL.of hb2, (by rfl), _, _, rfl, rfl, ⟨by decide, by decide⟩, _, rfl, p, _, _, _, rfl, rfl, SqL.of hb2, (by rfl), .inl ⟨_, rfl, _, _, rfl, rfl, (by show (0 : Int) < 8017; decide), _, _, rfl, rfl, .inr ⟨by decide, by decide⟩, _, _, rfl, rfl, .inl ⟨_, rfl, _, rfl, _, _, rfl, rfl, hm, ?_⟩⟩⟩
    exact Qk _ _ i r ((((x + (k + 1) * 6997) % 2147483629) ^ (Int.toNat 3) + 41011 * ((x + (k + 1) * 6997) % 2147483629) + 1013) % 2147483629) (k + 1) B2 (by omega) (Int.emod_nonneg _ (by omega)) (Int.emod_lt_of_pos _ hm) (((Frm.refl p H).upd hb).upd hb)
theorem ok_take (F : FnP K "_law_take" "_law_take" s_law_take (He.ga K "_law_take")) (mint : mg "int" = none) (mlen : mg "len" = none) :
    OkF P w K mg base 1 (He.ga K "_law_take") ["_law_bag_here", "_law_many"] spTake := by
  obtain ⟨fd, F⟩ := F
  refine ⟨fd, F.ok sc_take (fun vs H Q E h => ?_) (fun cdv A outer s H vs Q E hr h => ?_), F.bindsN fun _ _ _ _ _ _ us hl => match us, hl with | [_, _], _ => rfl⟩
  · obtain ⟨p, c, n, i, r, x, k, m, rfl, _⟩ := h
    rfl
  · obtain ⟨p, c, n, i, r, x, k, m, rfl, B, hm, hm2, hk, Qk⟩ := h
    obtain ⟨t2, d2, e2⟩ := take_tail (P := P) (w := w) (K := K) (base := base) mint mlen cdv A outer s H E
    have hb := B.hb
    obtain ⟨ns, hc, hn⟩ := B.hc
    refine ⟨_, PSs.nox (pss_cons (ps_if (PW.pt (pw_and (pt_cmpR op_eq (pe_ix ix_list (pv 0) pe_int (fun _ _ => rfl)) pe_int (nomark _))
            (pw_and1 (pt_cmpR op_lt (pe_ix ix_list (pv 0) pe_int (fun _ _ => rfl)) (pe_callB call_len_seq rfl mlen boot_len (pa_cons (pe_ix ix_list (pv 0) pe_int (fun _ _ => rfl)) pa_nil)) (nomark _)))))
          (pss_cons (ps_set (i := 2) sc_take.nd rfl (Or.inl rfl) (pe_ix ix_list (pe_ix ix_list (pv 0) pe_int (fun _ _ => rfl)) (pe_ix ix_list (pv 0) pe_int (fun _ _ => rfl)) (fun _ _ => rfl)))
          (pss_cons (ps_asg (pe_op op_add (pe_ix ix_list (pv 0) pe_int (fun _ _ => rfl)) pe_int) (pg_sub (pv 0) pe_int set_list))
          (pss_one (ps_if (pt_cmpR op_ge (pv 2) (pe_op op_pow pe_int pe_int) (nomark _))
            (pss_one (ps_asg (pv 2) (pg_sub (pv 0) pe_int set_list)))
            (pss_one (ps_asg (pe_op op_mod (pe_callTy call_int1 rfl mint boot_int (pa_cons (pe_op op_add (pe_op op_add (pe_op op_mul (pe_ix ix_list (pv 0) pe_int (fun _ _ => rfl)) pe_int) (pe_op op_mod (pe_callTy call_int1 rfl mint boot_int (pa_cons (pv 2) pa_nil)) pe_int)) pe_int) pa_nil)) pe_int) (pg_sub (pv 0) pe_int set_list)))))))
          pss_nil) d2), ?_⟩
    have fin : ∀ (H1 : Hp) (i1 r1 x1 k1 : Int) (v2 : Option V), BagAt H1 p c n i1 r1 x1 k1 → k1 = k → Frm p H H1 → t2 { nx := fun _ H' => Q .non H', rt := Q } [some (.ref p), some (.int m), v2, none, none] H1 := fun H1 i1 r1 x1 k1 v2 B1 e f => by
      subst e
      exact e2 _ H1 p c n i1 r1 x1 k1 m v2 B1 hm hm2 hk fun H' d i' r' x' k' B' hk' h0 h1 f' => Qk H' d i' r' x' k' B' hk' h0 h1 (f.trans f').same (f.trans f').free
    refine ⟨_, rfl, p, _, _, _, rfl, rfl, SqL.of hb, (by rfl), rfl, _, rfl, ite2 (fun hr0 => ?_) (fun hr0 => ?_)⟩
    · refine ⟨_, rfl, p, _, _, _, rfl, rfl, SqL.of hb, (by rfl), _, rfl, p, _, _, _, rfl, rfl, SqL.of hb, (by rfl), c, _, rfl, .inl (SqL.of hc), _, _, rfl, rfl, _, rfl, ite2 (fun hi => ?_) (fun hi => ?_)⟩
      · have hi : i < (ns.map V.int).length := by simpa using hi
        rw [List.length_map] at hi
        have hi0 := B.i0
        obtain ⟨j, ej⟩ : ∃ j : Nat, i = (j : Int) := ⟨i.toNat, by omega⟩
        have hj : j < ns.length := by omega
        refine ⟨_, rfl, p, _, _, _, rfl, rfl, SqL.of hb, (by rfl), _, rfl, p, _, _, _, rfl, rfl, SqL.of hb, (by rfl), c, _, _, _, rfl, rfl, SqL.of hc, at_of (j := j) (v := V.int ns[j]) ej (by rw [List.getElem?_map, List.getElem?_eq_getElem hj]; rfl), ?_⟩
        refine ⟨_, rfl, p, _, _, _, rfl, rfl, SqL.of hb, (by rfl), _, _, rfl, rfl, _, rfl, p, _, _, 1, rfl, rfl, hb, (by rfl), ?_⟩
        have B1 : BagAt (upd H p (bagL c (i + 1) r x k)) p c n (i + 1) r x k := B.to (by omega) (by omega) B.r0 B.x0 B.x1 B.k0
        have hb1 := B1.hb
        refine ⟨_, rfl, _, _, rfl, rfl, ⟨by decide, by decide, by decide⟩, _, _, rfl, rfl, _, rfl, ite2 (fun hg => ?_) (fun hg => ?_)⟩
        · have hg : (10 : Int) ^ (Int.toNat 18) ≤ ns[j] := by simpa using hg
          have hg0 : 0 ≤ ns[j] := Int.le_trans (by decide) hg
          refine ⟨_, rfl, _, rfl, p, _, _, 2, rfl, rfl, hb1, (by rfl), ?_⟩
          exact fin _ (i + 1) ns[j] x k _ (B1.to B1.i0 B1.i1 hg0 B1.x0 B1.x1 B1.k0) rfl (((Frm.refl p H).upd hb).upd hb)
        · refine ⟨_, rfl, p, _, _, _, rfl, rfl, SqL.of hb1, (by rfl), _, _, rfl, rfl, .inl ⟨by have := B.x0; omega, by have := B.x1; omega⟩, _, rfl, .inl ⟨_, rfl, _, _, rfl, rfl, (by show (0 : Int) < 2147483543; decide), _, _, rfl, rfl, _, _, rfl, rfl, .inl ⟨_, rfl, _, _, rfl, rfl, (by show (0 : Int) < 2147483629; decide), ?_⟩⟩⟩
          refine ⟨_, rfl, p, _, _, 3, rfl, rfl, hb1, (by rfl), ?_⟩
          exact fin _ (i + 1) r _ k _ (B1.to B1.i0 B1.i1 B1.r0 (Int.emod_nonneg _ (by decide)) (Int.emod_lt_of_pos _ (by decide)) B1.k0) rfl (((Frm.refl p H).upd hb).upd hb)
      · exact fin H i r x k none B rfl (Frm.refl p H)
    · exact fin H i r x k none B rfl (Frm.refl p H)
end
end K75

set_option maxHeartbeats 4000000
namespace K75
open PySem PySem.Spec PyProof.Rows L2
/-! ### data, laid anew above a heap -/
abbrev Z : Hp := fun _ => none
def Atom (v : V) : PyData → Prop
  | .none => v = .non
  | .bool b => v = .bl b
  | .int i => v = .int i
  | .str x => v = .str x
  | _ => False
def Box (F : V → PyData → Prop) (H0 H : Hp) (v : V) : PyData → Prop
  | .list ds => ∃ a xs, v = .ref a ∧ H0 a = none ∧ H a = some (.lst xs) ∧ xs.length ≤ 1000 ∧ Paired F xs ds
  | .tuple ds => ∃ a xs, v = .ref a ∧ H0 a = none ∧ H a = some (.tup xs) ∧ xs.length ≤ 1000 ∧ Paired F xs ds
  | _ => False
def New (H0 H : Hp) : Nat → V → PyData → Prop
  | 0, v, d => Atom v d
  | n + 1, v, d => Atom v d ∨ Box (New H0 H n) H0 H v d
theorem Paired.map2 {α β : Type} {F G : α → β → Prop} : ∀ {l₁ : List α} {l₂ : List β}, Paired F l₁ l₂ → (∀ a b, F a b → G a b) → Paired G l₁ l₂
  | _, _, .nil, _ => .nil
  | _, _, .cons r t, f => .cons (f _ _ r) (Paired.map2 t f)
theorem Box.mono {F G : V → PyData → Prop} {H0 H0' H H' : Hp} (hF : ∀ v d, F v d → G v d) (h0 : ∀ a, H0 a = none → H0' a = none) (h : ∀ a o, H0 a = none → H a = some o → H' a = some o) {v : V} {d : PyData} (q : Box F H0 H v d) : Box G H0' H' v d := by
  cases d with
  | list ds =>
    obtain ⟨a, xs, e, f, g, l, r⟩ := q
    exact ⟨a, xs, e, h0 _ f, h _ _ f g, l, Paired.map2 r hF⟩
  | tuple ds =>
    obtain ⟨a, xs, e, f, g, l, r⟩ := q
    exact ⟨a, xs, e, h0 _ f, h _ _ f g, l, Paired.map2 r hF⟩
  | _ => exact q
theorem New.mono {H0 H0' H H' : Hp} (h0 : ∀ a, H0 a = none → H0' a = none) (h : ∀ a o, H0 a = none → H a = some o → H' a = some o) : ∀ (n : Nat) (v : V) (d : PyData), New H0 H n v d → New H0' H' n v d
  | 0, _, _, q => q
  | n + 1, v, d, .inl q => .inl q
  | n + 1, v, d, .inr q => .inr (q.mono (New.mono h0 h n) h0 h)
theorem New.same {H0 H H' : Hp} {n : Nat} {v : V} {d : PyData} (h : Same H H') (q : New H0 H n v d) : New H0 H' n v d := New.mono (fun _ e => e) (fun a o _ e => h a o e) n v d q
theorem New.z {H0 H : Hp} {n : Nat} {v : V} {d : PyData} (q : New H0 H n v d) : New Z H n v d := New.mono (fun _ _ => rfl) (fun _ _ _ e => e) n v d q
def tyD : PyData → String
  | .none => "NoneType"
  | .bool _ => "bool"
  | .int _ => "int"
  | .str _ => "str"
  | .list _ => "list"
  | .tuple _ => "tuple"
  | .dict _ => "dict"
def isl : PyData → Bool
  | .list _ => true
  | _ => false
def ist : PyData → Bool
  | .tuple _ => true
  | _ => false
def isb : PyData → Bool
  | .bool _ => true
  | _ => false
def isi : PyData → Bool
  | .bool _ => true
  | .int _ => true
  | _ => false
def iss : PyData → Bool
  | .str _ => true
  | _ => false
theorem kl (d : PyData) : kitB (tyD d) "list" = some (isl d) := by
  cases d <;> first | (show kitB "NoneType" "list" = some false; decide +kernel) | (show kitB "bool" "list" = some false; decide +kernel) | (show kitB "int" "list" = some false; decide +kernel) | (show kitB "str" "list" = some false; decide +kernel) | (show kitB "list" "list" = some true; decide +kernel) | (show kitB "tuple" "list" = some false; decide +kernel) | (show kitB "dict" "list" = some false; decide +kernel)
theorem kt (d : PyData) : kitB (tyD d) "tuple" = some (ist d) := by
  cases d <;> first | (show kitB "NoneType" "tuple" = some false; decide +kernel) | (show kitB "bool" "tuple" = some false; decide +kernel) | (show kitB "int" "tuple" = some false; decide +kernel) | (show kitB "str" "tuple" = some false; decide +kernel) | (show kitB "list" "tuple" = some false; decide +kernel) | (show kitB "tuple" "tuple" = some true; decide +kernel) | (show kitB "dict" "tuple" = some false; decide +kernel)
theorem kb (d : PyData) : kitB (tyD d) "bool" = some (isb d) := by
  cases d <;> first | (show kitB "NoneType" "bool" = some false; decide +kernel) | (show kitB "bool" "bool" = some true; decide +kernel) | (show kitB "int" "bool" = some false; decide +kernel) | (show kitB "str" "bool" = some false; decide +kernel) | (show kitB "list" "bool" = some false; decide +kernel) | (show kitB "tuple" "bool" = some false; decide +kernel) | (show kitB "dict" "bool" = some false; decide +kernel)
theorem ki (d : PyData) : kitB (tyD d) "int" = some (isi d) := by
  cases d <;> first | (show kitB "NoneType" "int" = some false; decide +kernel) | (show kitB "bool" "int" = some true; decide +kernel) | (show kitB "int" "int" = some true; decide +kernel) | (show kitB "str" "int" = some false; decide +kernel) | (show kitB "list" "int" = some false; decide +kernel) | (show kitB "tuple" "int" = some false; decide +kernel) | (show kitB "dict" "int" = some false; decide +kernel)
theorem ks (d : PyData) : kitB (tyD d) "str" = some (iss d) := by
  cases d <;> first | (show kitB "NoneType" "str" = some false; decide +kernel) | (show kitB "bool" "str" = some false; decide +kernel) | (show kitB "int" "str" = some false; decide +kernel) | (show kitB "str" "str" = some true; decide +kernel) | (show kitB "list" "str" = some false; decide +kernel) | (show kitB "tuple" "str" = some false; decide +kernel) | (show kitB "dict" "str" = some false; decide +kernel)
theorem New.atom {H0 H : Hp} {n : Nat} {v : V} {d : PyData} (h : Atom v d) : New H0 H n v d := by
  cases n with
  | zero => exact h
  | succ n => exact .inl h
theorem Atom.ty {K : PySem.W.Frag} {H : Hp} {v : V} : ∀ {d : PyData}, Atom v d → TyX K H v (.type (tyD d))
  | .none, q => by have q : v = _ := q; subst q; exact .base .non
  | .bool b, q => by have q : v = _ := q; subst q; exact .base (.bl b)
  | .int b, q => by have q : v = _ := q; subst q; exact .base (.int b)
  | .str b, q => by have q : v = _ := q; subst q; exact .base (.str b)
theorem Box.ty {K : PySem.W.Frag} {F : V → PyData → Prop} {H0 H : Hp} {v : V} {d : PyData} (q : Box F H0 H v d) : TyX K H v (.type (tyD d)) := by
  cases d with
  | list ds =>
    obtain ⟨a, xs, e, f, g, l, r⟩ := q
    subst e; exact .base (.lst g)
  | tuple ds =>
    obtain ⟨a, xs, e, f, g, l, r⟩ := q
    subst e; exact .base (.tup g)
  | _ => exact q.elim
theorem New.ty {K : PySem.W.Frag} {H0 H : Hp} : ∀ {n : Nat} {v : V} {d : PyData}, New H0 H n v d → TyX K H v (.type (tyD d))
  | 0, _, _, q => Atom.ty q
  | n + 1, _, _, .inl q => Atom.ty q
  | n + 1, _, _, .inr q => q.ty
theorem Paired.get {α β : Type} {F : α → β → Prop} : ∀ {l₁ : List α} {l₂ : List β} {i : Nat} {x : α}, Paired F l₁ l₂ → l₁[i]? = some x → ∃ y, l₂[i]? = some y ∧ F x y
  | _, _, _, _, .nil, e => by simp at e
  | _, _, 0, _, .cons r _, e => by simp at e; subst e; exact ⟨_, rfl, r⟩
  | _, _, i + 1, _, .cons _ t, e => by
    obtain ⟨y, h1, h2⟩ := Paired.get (i := i) t (by simpa using e)
    exact ⟨y, by simpa using h1, h2⟩
theorem Paired.snoc {α β : Type} {F : α → β → Prop} : ∀ {l₁ : List α} {l₂ : List β} {a : α} {b : β}, Paired F l₁ l₂ → F a b → Paired F (l₁ ++ [a]) (l₂ ++ [b])
  | _, _, _, _, .nil, h => .cons h .nil
  | _, _, _, _, .cons r t, h => .cons r (Paired.snoc t h)
theorem take_snoc {α : Type} {l : List α} {i : Nat} {x : α} (h : l[i]? = some x) : l.take (i + 1) = l.take i ++ [x] := by
  rw [List.take_add_one, h]
  rfl
section
variable {P : Program} {w : World} {K : PySem.W.Frag} {mg : Str → Option Value} {base : Heap}
def spCopy : Nat → Sp
  | 0 => fun _ _ _ _ => False
  | n + 1 => fun vs H Q _ => ∃ x d, vs = [x] ∧ New Z H n x d ∧ ∀ v H', Same H H' → New H H' n v d → Q v H'
theorem sc_copy : FnScope ["value", "item"] ["value"] (defScope s_copy_of) := ⟨rfl, rfl, rfl, by decide +kernel, rfl, by decide +kernel, by decide +kernel⟩
theorem isi_ty {K : PySem.W.Frag} {H : Hp} {x : V} {a b : String} {r : Bool} {Q : VK} (t : TyX K H x (.type a)) (h : kitB a b = some r) (q : Q (.bl r) H) : rIsi K [x, .ty b] H Q := ⟨x, .ty b, _, _, r, rfl, .ty b, t, kit_ty h, q⟩
/-- a comprehension that copies: what each turn keeps -/
def CopyAt (n : Nat) (H0 : Hp) (D : Addr) (ds : List PyData) (i : Nat) (H : Hp) : Prop := Same H0 H ∧ ∃ acc, H D = some (.lst acc) ∧ acc.length = i ∧ Paired (New (upd H0 D (.lst [])) H n) acc (ds.take i)
theorem Paired.length {α β : Type} {F : α → β → Prop} : ∀ {l₁ : List α} {l₂ : List β}, Paired F l₁ l₂ → l₁.length = l₂.length
  | _, _, .nil => rfl
  | _, _, .cons _ t => by rw [List.length_cons, List.length_cons, Paired.length t]
theorem copy_start {n : Nat} {H : Hp} {D : Addr} {ds : List PyData} (hD : H D = none) : CopyAt n H D ds 0 (upd H D (.lst [])) :=
  ⟨fun b o e => by rw [upd_ne (ne_of_none e hD)]; exact e, [], upd_same, rfl, by rw [List.take_zero]; exact .nil⟩
theorem copy_turn {n : Nat} {H0 H H4 : Hp} {D : Addr} {ds : List PyData} {i : Nat} {d : PyData} {v : V} (hn : H0 D = none) (C : CopyAt n H0 D ds i H) (hd : ds[i]? = some d) (s : Same H H4) (q : New H H4 n v d) (hl : ds.length ≤ 1000) :
    ∃ acc, H4 D = some (.lst acc) ∧ acc.length < sizeLine ∧ CopyAt n H0 D ds (i + 1) (upd H4 D (.lst (acc ++ [v]))) := by
  obtain ⟨s0, acc, e, l, r⟩ := C
  have hi : i < ds.length := (List.getElem?_eq_some_iff.mp hd).1
  refine ⟨acc, s _ _ e, Nat.lt_of_lt_of_le (show acc.length < 1001 by omega) (by decide), fun b o hb => ?_, acc ++ [v], upd_same, by rw [List.length_append, l]; rfl, ?_⟩
  · rw [upd_ne (ne_of_none hb hn)]; exact s _ _ (s0 _ _ hb)
  · have nD : ∀ a, upd H0 D (.lst []) a = none → a ≠ D := fun a e2 z => by rw [z, upd_same] at e2; cases e2
    rw [take_snoc hd]
    refine Paired.snoc (Paired.map2 r fun a b x => New.mono (fun _ e2 => e2) (fun a o f e2 => ?_) _ _ _ x) (New.mono (fun a f => ?_) (fun a o f e2 => ?_) _ _ _ q)
    · rw [upd_ne (nD a f)]; exact s _ _ e2
    · have na : a ≠ D := fun z => by rw [z, e] at f; cases f
      rw [upd_ne na]; exact s0.free f
    · have na : a ≠ D := fun z => by rw [z, e] at f; cases f
      rw [upd_ne na]; exact e2
theorem copy_end {n : Nat} {H0 H : Hp} {D : Addr} {ds : List PyData} (hn : H0 D = none) (C : CopyAt n H0 D ds ds.length H) : Same H0 H ∧ ∃ xs, H D = some (.lst xs) ∧ xs.length = ds.length ∧ Paired (New H0 H n) xs ds := by
  obtain ⟨s0, acc, e, l, r⟩ := C
  rw [List.take_length] at r
  refine ⟨s0, acc, e, l, Paired.map2 r fun a b x => New.mono (fun a f => ?_) (fun _ _ _ e2 => e2) _ _ _ x⟩
  have na : a ≠ D := fun z => by rw [z, upd_same] at f; cases f
  rwa [upd_ne na] at f
theorem ok_copy (F : FnP K "copy_of" "copy_of" s_copy_of (He.ga K "copy_of")) (mc : mg "copy_of" = some (.ref (He.ga K "copy_of"))) (mi : mg "isinstance" = none) (ml : mg "list" = none) (mt : mg "tuple" = none) :
    ∀ n, OkF P w K mg base n (He.ga K "copy_of") ["value"] (spCopy n)
  | 0 => by
    obtain ⟨fd, F⟩ := F
    exact ⟨fd, ⟨fun _ _ _ _ h => h.elim, fun _ _ _ _ _ _ _ _ _ _ _ _ _ h => h.elim⟩, F.bindsN fun _ _ _ _ _ _ us hl => match us, hl with | [_], _ => rfl⟩
  | n + 1 => by
    obtain ⟨fd0, G, bG⟩ := ok_copy F mc mi ml mt n
    obtain ⟨fd, F⟩ := F
    have kp := F.kp
    refine ⟨fd, F.ok sc_copy (fun vs H Q E h => ?_) (fun cdv A outer s H vs Q E hr h => ?_), F.bindsN fun _ _ _ _ _ _ us hl => match us, hl with | [_], _ => rfl⟩
    · obtain ⟨x, d, rfl, _⟩ := h
      rfl
    · obtain ⟨x, d, rfl, hx, Qk⟩ := h
      refine ⟨_, PSs.nox (pss_cons (ps_if (pt_val (pe_callB call_isi rfl mi (by decide +kernel) (pa_cons (pv 0) (pa_cons (pe_bltn (v := .ty "list") (by rfl) ml (by decide +kernel) rfl) pa_nil))))
            (pss_one (ps_ret (pe_lc (own := [("item", 1)]) (g := gName 1) (tt := tYes) rfl sc_copy.nd (pi_list (pv 0)) (blkOk_by (N := ["value", "item"]) (sc := defScope s_copy_of) (by decide +kernel)) (fun _ _ _ _ _ => pg_name (i := 1) sc_copy.nd rfl (Or.inl rfl)) (fun _ _ _ _ _ => pts_nil)
              (fun _ _ _ _ _ => pe_call G hr rfl mc kp bG .nil pass0 (pa_cons (pv 1) pa_nil)))))
            pss_nil)
        (pss_one (ps_ret (pe_ifExp (pt_val (pe_callB call_isi rfl mi (by decide +kernel) (pa_cons (pv 0) (pa_cons (pe_bltn (v := .ty "tuple") (by rfl) mt (by decide +kernel) rfl) pa_nil))))
          (pe_callTy call_tuple_of rfl mt (by decide +kernel) (pa_cons (pe_lc (own := [("item", 1)]) (g := gName 1) (tt := tYes) rfl sc_copy.nd (pi_tup (pv 0)) (blkOk_by (N := ["value", "item"]) (sc := defScope s_copy_of) (by decide +kernel)) (fun _ _ _ _ _ => pg_name (i := 1) sc_copy.nd rfl (Or.inl rfl)) (fun _ _ _ _ _ => pts_nil)
              (fun _ _ _ _ _ => pe_call G hr rfl mc kp bG .nil pass0 (pa_cons (pv 1) pa_nil))) pa_nil))
          (pv 0))))), ?_⟩
      have split : Atom x d ∨ ∃ m, n = m + 1 ∧ Box (New Z H m) Z H x d := by
        cases n with
        | zero => exact .inl hx
        | succ m => exact hx.imp id fun q => ⟨m, rfl, q⟩
      rcases split with ha | ⟨m, rfl, hq⟩
      · cases d with
        | none => exact ⟨_, rfl, _, _, _, _, false, rfl, .ty _, hx.ty, kit_ty (kl _), _, rfl, iteF ⟨_, rfl, _, _, _, _, false, rfl, .ty _, hx.ty, kit_ty (kt _), _, rfl, iteF ⟨_, rfl, Qk _ _ (Same.refl _) (New.atom ha)⟩⟩⟩
        | bool b => exact ⟨_, rfl, _, _, _, _, false, rfl, .ty _, hx.ty, kit_ty (kl _), _, rfl, iteF ⟨_, rfl, _, _, _, _, false, rfl, .ty _, hx.ty, kit_ty (kt _), _, rfl, iteF ⟨_, rfl, Qk _ _ (Same.refl _) (New.atom ha)⟩⟩⟩
        | int b => exact ⟨_, rfl, _, _, _, _, false, rfl, .ty _, hx.ty, kit_ty (kl _), _, rfl, iteF ⟨_, rfl, _, _, _, _, false, rfl, .ty _, hx.ty, kit_ty (kt _), _, rfl, iteF ⟨_, rfl, Qk _ _ (Same.refl _) (New.atom ha)⟩⟩⟩
        | str b => exact ⟨_, rfl, _, _, _, _, false, rfl, .ty _, hx.ty, kit_ty (kl _), _, rfl, iteF ⟨_, rfl, _, _, _, _, false, rfl, .ty _, hx.ty, kit_ty (kt _), _, rfl, iteF ⟨_, rfl, Qk _ _ (Same.refl _) (New.atom ha)⟩⟩⟩
        | _ => exact ha.elim
      · have ty := hq.ty (K := K)
        cases d with
        | list ds =>
          obtain ⟨a, xs, rfl, _, g, l, r⟩ := hq
          refine ⟨_, rfl, _, _, _, _, true, rfl, .ty _, ty, kit_ty (kl _), _, rfl, iteT ⟨_, rfl, a, rfl, ⟨xs, SqL.of g⟩, fun D hD => lc_list (K := K) (a := a) (xs := xs) (fun i H' => CopyAt m H D ds i H') (copy_start hD) (fun i H' _ C => SqL.of (C.1 _ _ g)) ?_ ?_⟩⟩
          · intro i y H' hi C
            obtain ⟨e, he, hn⟩ := Paired.get r hi
            exact ⟨rfl, ⟨_, rfl, y, e, rfl, hn.same C.1, fun v H4 s4 q4 => copy_turn hD C he s4 q4 (by rw [← Paired.length r]; exact l)⟩⟩
          · intro H' C
            rw [Paired.length r] at C
            obtain ⟨s0, ys, e1, e2, e3⟩ := copy_end hD C
            exact Qk _ _ s0 (.inr ⟨D, ys, rfl, hD, e1, by rw [e2, ← Paired.length r]; exact l, e3⟩)
        | tuple ds =>
          obtain ⟨a, xs, rfl, _, g, l, r⟩ := hq
          refine ⟨_, rfl, _, _, _, _, false, rfl, .ty _, ty, kit_ty (kl _), _, rfl, iteF ⟨_, rfl, _, _, _, _, true, rfl, .ty _, ty, kit_ty (kt _), _, rfl, iteT ⟨_, rfl, a, rfl, ⟨xs, SqT.of g⟩, fun D hD => lc_tup (K := K) (a := a) (xs := xs) (fun i H' => CopyAt m H D ds i H') (copy_start hD) (fun i H' _ C => SqT.of (C.1 _ _ g)) ?_ ?_⟩⟩⟩
          · intro i y H' hi C
            obtain ⟨e, he, hn⟩ := Paired.get r hi
            exact ⟨rfl, ⟨_, rfl, y, e, rfl, hn.same C.1, fun v H4 s4 q4 => copy_turn hD C he s4 q4 (by rw [← Paired.length r]; exact l)⟩⟩
          · intro H' C
            rw [Paired.length r] at C
            obtain ⟨s0, ys, e1, e2, e3⟩ := copy_end hD C
            refine ⟨D, ys, rfl, .inl ⟨SqL.of e1, fun p hp => ?_⟩⟩
            have np : H p = none := s0.free hp
            have sp : Same H' (upd H' p (.tup ys)) := fun b o e => by rw [upd_ne (ne_of_none e hp)]; exact e
            exact Qk _ _ (s0.trans sp) (.inr ⟨p, ys, rfl, np, upd_same, by rw [e2, ← Paired.length r]; exact l, Paired.map2 e3 fun _ _ q => q.same sp⟩)
        | _ => exact hq.elim
end
end K75

set_option maxHeartbeats 4000000
namespace K75
open PySem PySem.Spec PyProof.Rows L2
section
variable {P : Program} {w : World} {K : PySem.W.Frag} {mg : Str → Option Value} {base : Heap}
theorem kit_lt (d : PyData) : PySem.W.kitAny K (.type (tyD d)) [.type "list", .type "tuple"] = some (isl d || ist d) :=
  kitAny_cons (kit_ty (kl d)) (fun e => by rw [e]; exact kitAny_cons (kit_ty (kt d)) (fun e2 => by rw [e2]; exact kitAny_nil) fun e2 => by rw [e2]; rfl) fun e => by rw [e]; rfl
def spListed : Sp := fun vs H Q _ => ∃ n x d, vs = [x] ∧ New Z H n x d ∧ ∀ H', Same H H' → Q (.bl (isl d || ist d)) H'
theorem sc_listed : FnScope ["value"] ["value"] (defScope s_is_listed) := ⟨rfl, rfl, rfl, by decide +kernel, rfl, by decide +kernel, by decide +kernel⟩
theorem same_new {H : Hp} {p : Addr} {o : HO} (h : H p = none) : Same H (upd H p o) := fun b u e => by rw [upd_ne (ne_of_none e h)]; exact e
theorem ok_listed (F : FnP K "is_listed" "is_listed" s_is_listed (He.ga K "is_listed")) (mi : mg "isinstance" = none) (ml : mg "list" = none) (mt : mg "tuple" = none) :
    OkF P w K mg base 1 (He.ga K "is_listed") ["value"] spListed := by
  obtain ⟨fd, F⟩ := F
  refine ⟨fd, F.ok sc_listed (fun vs H Q E h => ?_) (fun cdv A outer s H vs Q E hr h => ?_), F.bindsN fun _ _ _ _ _ _ us hl => match us, hl with | [_], _ => rfl⟩
  · obtain ⟨n, x, d, rfl, _⟩ := h
    rfl
  · obtain ⟨n, x, d, rfl, hx, Qk⟩ := h
    refine ⟨_, PSs.nox (pss_one (ps_ret (pe_callB call_isiT rfl mi (by decide +kernel) (pa_cons (pv 0) (pa_cons (pe_tup (pa_cons (pe_bltn (v := .ty "list") (by rfl) ml (by decide +kernel) rfl) (pa_cons (pe_bltn (v := .ty "tuple") (by rfl) mt (by decide +kernel) rfl) pa_nil))) pa_nil))))), ?_⟩
    refine ⟨_, rfl, (by show 2 ≤ sizeLine; decide), fun p hp => ?_⟩
    exact ⟨_, p, _, _, _, _, rfl, upd_same, .cons (.ty _) (.cons (.ty _) .nil), (hx.same (same_new hp)).ty, kit_lt d, Qk _ (same_new hp)⟩
def spRow (n : Nat) : Sp := fun vs H Q _ => ∃ x ds, vs = [x] ∧ New Z H (n + 1) x (.list ds) ∧ ∀ v H', Same H H' → New H H' (n + 1) v (.list ds) → Q v H'
theorem sc_row : FnScope ["value", "item"] ["value"] (defScope s_row_copy) := ⟨rfl, rfl, rfl, by decide +kernel, rfl, by decide +kernel, by decide +kernel⟩
theorem ok_row (n : Nat) (F : FnP K "row_copy" "row_copy" s_row_copy (He.ga K "row_copy")) (mc : mg "copy_of" = some (.ref (He.ga K "copy_of"))) (ml : mg "is_listed" = some (.ref (He.ga K "is_listed"))) (kc : PySem.W.keepIn K (.ref (He.ga K "copy_of")) = true) (kli : PySem.W.keepIn K (.ref (He.ga K "is_listed")) = true)
    (GC : OkF P w K mg base (n + 1) (He.ga K "copy_of") ["value"] (spCopy (n + 1))) (GL : OkF P w K mg base 1 (He.ga K "is_listed") ["value"] spListed) :
    OkF P w K mg base (n + 2) (He.ga K "row_copy") ["value"] (spRow n) := by
  obtain ⟨fd, F⟩ := F
  obtain ⟨fdC, GC, bC⟩ := GC
  obtain ⟨fdL, GL, bL⟩ := GL
  refine ⟨fd, F.ok sc_row (fun vs H Q E h => ?_) (fun cdv A outer s H vs Q E hr h => ?_), F.bindsN fun _ _ _ _ _ _ us hl => match us, hl with | [_], _ => rfl⟩
  · obtain ⟨x, d, rfl, _⟩ := h
    rfl
  · obtain ⟨x, ds, rfl, hx, Qk⟩ := h
    refine ⟨_, PSs.nox (pss_one (ps_ret (pe_ifExp (pt_val (pe_call GL (hr.mono (by omega)) rfl ml kli bL .nil pass0 (pa_cons (pv 0) pa_nil)))
      (pe_lc (own := [("item", 1)]) (g := gName 1) (tt := tYes) rfl sc_row.nd (pi_list (pv 0)) (blkOk_by (N := ["value", "item"]) (sc := defScope s_row_copy) (by decide +kernel)) (fun _ _ _ _ _ => pg_name (i := 1) sc_row.nd rfl (Or.inl rfl)) (fun _ _ _ _ _ => pts_nil)
              (fun _ _ _ _ _ => pe_call GC hr rfl mc kc bC .nil pass0 (pa_cons (pv 1) pa_nil))) (pe_lst pa_nil)))), ?_⟩
    refine ⟨_, rfl, n + 1, x, _, rfl, hx, fun H1 s1 => ⟨_, rfl, ?_⟩⟩
    rcases hx with hx | hx
    · exact hx.elim
    · obtain ⟨a, xs, rfl, _, g, l, r⟩ := hx
      refine iteT ⟨_, rfl, a, rfl, ⟨xs, SqL.of (s1 _ _ g)⟩, fun D hD => lc_list (K := K) (a := a) (xs := xs) (fun i H' => CopyAt n H1 D ds i H') (copy_start hD) (fun i H' _ C => SqL.of (C.1 _ _ (s1 _ _ g))) ?_ ?_⟩
      · intro i y H' hi C
        obtain ⟨e, he, hn⟩ := Paired.get r hi
        exact ⟨rfl, ⟨_, rfl, y, e, rfl, (hn.same s1).same C.1, fun v H4 s4 q4 => copy_turn hD C he s4 q4 (by rw [← Paired.length r]; exact l)⟩⟩
      · intro H' C
        rw [Paired.length r] at C
        obtain ⟨s0, ys, e1, e2, e3⟩ := copy_end hD C
        exact Qk _ _ (s1.trans s0) (.inr ⟨D, ys, rfl, s1.free hD, e1, by rw [e2, ← Paired.length r]; exact l, Paired.map2 e3 fun _ _ q => New.mono (fun _ e => s1.free e) (fun _ _ _ e => e) _ _ _ q⟩)
/-! ### the law's own comparison, of data that are the same -/
def spSame : Nat → Sp
  | 0 => fun _ _ _ _ => False
  | n + 1 => fun vs H Q _ => ∃ x y d, vs = [x, y] ∧ New Z H n x d ∧ New Z H n y d ∧ ∀ H', Same H H' → Q (.bl true) H'
theorem sc_same : FnScope ["_law_found", "_law_due", "_law_k"] ["_law_found", "_law_due"] (defScope s_law_same) := ⟨rfl, rfl, rfl, by decide +kernel, rfl, by decide +kernel, by decide +kernel⟩
theorem ok_same (F : FnP K "_law_same" "_law_same" s_law_same (He.ga K "_law_same")) (mc : mg "_law_same" = some (.ref (He.ga K "_law_same"))) (mi : mg "isinstance" = none) (ml : mg "list" = none) (mt : mg "tuple" = none) (mb : mg "bool" = none) (mn : mg "int" = none)
    (ms : mg "str" = none) (mlen : mg "len" = none) (mall : mg "all" = none) (mr : mg "range" = none) :
    ∀ n, OkF P w K mg base n (He.ga K "_law_same") ["_law_found", "_law_due"] (spSame n)
  | 0 => by
    obtain ⟨fd, F⟩ := F
    exact ⟨fd, ⟨fun _ _ _ _ h => h.elim, fun _ _ _ _ _ _ _ _ _ _ _ _ _ h => h.elim⟩, F.bindsN fun _ _ _ _ _ _ us hl => match us, hl with | [_, _], _ => rfl⟩
  | n + 1 => by
    obtain ⟨fd0, G, bG⟩ := ok_same F mc mi ml mt mb mn ms mlen mall mr n
    obtain ⟨fd, F⟩ := F
    have kp := F.kp
    refine ⟨fd, F.ok sc_same (fun vs H Q E h => ?_) (fun cdv A outer s H vs Q E hr h => ?_), F.bindsN fun _ _ _ _ _ _ us hl => match us, hl with | [_, _], _ => rfl⟩
    · obtain ⟨x, y, d, rfl, _⟩ := h
      rfl
    · obtain ⟨x, y, d, rfl, hx, hy, Qk⟩ := h
      refine ⟨_, PSs.nox (pss_cons (ps_if (pt_val (pe_callB call_isiT rfl mi (by decide +kernel) (pa_cons (pv 1) (pa_cons (pe_tup (pa_cons (pe_bltn (v := .ty "list") (by rfl) ml (by decide +kernel) rfl) (pa_cons (pe_bltn (v := .ty "tuple") (by rfl) mt (by decide +kernel) rfl) pa_nil))) pa_nil))))
            (pss_cons (ps_if (PW.pt (pw_or (pt_cmpR op_ne (pe_callB call_isi rfl mi (by decide +kernel) (pa_cons (pv 0) (pa_cons (pe_bltn (v := .ty "list") (by rfl) ml (by decide +kernel) rfl) pa_nil))) (pe_callB call_isi rfl mi (by decide +kernel) (pa_cons (pv 1) (pa_cons (pe_bltn (v := .ty "list") (by rfl) ml (by decide +kernel) rfl) pa_nil))) (nomark _))
                (pw_or1 (pt_cmpR op_ne (pe_callB call_isi rfl mi (by decide +kernel) (pa_cons (pv 0) (pa_cons (pe_bltn (v := .ty "tuple") (by rfl) mt (by decide +kernel) rfl) pa_nil))) (pe_callB call_isi rfl mi (by decide +kernel) (pa_cons (pv 1) (pa_cons (pe_bltn (v := .ty "tuple") (by rfl) mt (by decide +kernel) rfl) pa_nil))) (nomark _)))))
              (pss_one (ps_ret pe_bl)) pss_nil)
            (pss_one (ps_ret (pe_and (pe_cmpR op_eq (pe_callB call_len_seq rfl mlen boot_len (pa_cons (pv 0) pa_nil)) (pe_callB call_len_seq rfl mlen boot_len (pa_cons (pv 1) pa_nil)) (nomark _))
              (pe_one (pe_callB (cr_all rfl) rfl mall (by decide +kernel) (pa_cons (pe_lc (own := [("_law_k", 2)]) (g := gName 2) (tt := tYes) rfl sc_same.nd (pi_range1 rfl mr (pa_cons (pe_callB call_len_seq rfl mlen boot_len (pa_cons (pv 1) pa_nil)) pa_nil))
                (blkOk_by (N := ["_law_found", "_law_due", "_law_k"]) (sc := defScope s_law_same) (by decide +kernel)) (fun _ _ _ _ _ => pg_name (i := 2) sc_same.nd rfl (Or.inl rfl)) (fun _ _ _ _ _ => pts_nil)
                (fun _ _ _ _ _ => pe_call G hr rfl mc kp bG .nil pass0 (pa_cons (pe_ix (r := rIx K) ix_seq (pv 0) (pv 2) (fun _ _ => rfl)) (pa_cons (pe_ix (r := rIx K) ix_seq (pv 1) (pv 2) (fun _ _ => rfl)) pa_nil)))) pa_nil)))))))
            pss_nil)
        (pss_cons (ps_if (PW.pt (pw_or (pt_cmpR op_ne (pe_callB call_isi rfl mi (by decide +kernel) (pa_cons (pv 1) (pa_cons (pe_bltn (v := .ty "bool") (by rfl) mb (by decide +kernel) rfl) pa_nil))) (pe_callB call_isi rfl mi (by decide +kernel) (pa_cons (pv 0) (pa_cons (pe_bltn (v := .ty "bool") (by rfl) mb (by decide +kernel) rfl) pa_nil))) (nomark _))
                (pw_or1 (pt_cmpR op_ne (pe_callB call_isi rfl mi (by decide +kernel) (pa_cons (pv 1) (pa_cons (pe_bltn (v := .ty "int") (by rfl) mn (by decide +kernel) rfl) pa_nil))) (pe_callB call_isi rfl mi (by decide +kernel) (pa_cons (pv 0) (pa_cons (pe_bltn (v := .ty "int") (by rfl) mn (by decide +kernel) rfl) pa_nil))) (nomark _)))))
              (pss_one (ps_ret pe_bl)) pss_nil)
        (pss_cons (ps_if (pt_cmpR op_ne (pe_callB call_isi rfl mi (by decide +kernel) (pa_cons (pv 1) (pa_cons (pe_bltn (v := .ty "str") (by rfl) ms (by decide +kernel) rfl) pa_nil))) (pe_callB call_isi rfl mi (by decide +kernel) (pa_cons (pv 0) (pa_cons (pe_bltn (v := .ty "str") (by rfl) ms (by decide +kernel) rfl) pa_nil))) (nomark _))
              (pss_one (ps_ret pe_bl)) pss_nil)
        (pss_one (ps_ret (pe_ifExp (pt_cmpR op_isN (pv 1) pe_non (nomark _)) (pe_cmpR op_isN (pv 0) pe_non (nomark _)) (pe_and (pe_cmpR op_notN (pv 0) pe_non (nomark _)) (pe_one (pe_cmpR op_eq (pv 0) (pv 1) (nomark _)))))))))), ?_⟩
      refine ⟨_, rfl, (by show 2 ≤ sizeLine; decide), fun p hp => ?_⟩
      have s1 : Same H (upd H p (.tup [.ty "list", .ty "tuple"])) := same_new hp
      refine ⟨_, p, _, _, _, _, rfl, upd_same, .cons (.ty _) (.cons (.ty _) .nil), (hy.same s1).ty, kit_lt d, _, rfl, ?_⟩
      generalize hH1 : upd H p (.tup [.ty "list", .ty "tuple"]) = H1 at s1
      have hx1 := hx.same s1
      have hy1 := hy.same s1
      have tx := hx1.ty (K := K)
      have ty := hy1.ty (K := K)
      have split : Atom x d ∨ ∃ m, n = m + 1 ∧ Box (New Z H1 m) Z H1 x d := by
        cases n with
        | zero => exact .inl hx1
        | succ m => exact hx1.imp id fun q => ⟨m, rfl, q⟩
      rcases split with ha | ⟨m, rfl, hq⟩
      · have hb : Atom y d := by
          cases n with
          | zero => exact hy1
          | succ m => exact hy1.resolve_right fun q => by cases d <;> first | exact q | exact ha
        cases d with
        | none =>
          have ha : x = _ := ha
          have hb : y = _ := hb
          subst ha hb
          refine iteF ⟨_, rfl, _, _, _, _, _, rfl, .ty _, ty, kit_ty (kb _), _, rfl, _, _, _, _, _, rfl, .ty _, tx, kit_ty (kb _), rfl, _, rfl, ite2 (fun h => absurd h (by simp)) fun _ => ⟨_, rfl, _, _, _, _, _, rfl, .ty _, ty, kit_ty (ki _), _, rfl, _, _, _, _, _, rfl, .ty _, tx, kit_ty (ki _), rfl, _, rfl, ite2 (fun h => absurd h (by simp)) fun _ => ⟨_, rfl, _, _, _, _, _, rfl, .ty _, ty, kit_ty (ks _), _, rfl, _, _, _, _, _, rfl, .ty _, tx, kit_ty (ks _), rfl, _, rfl, ite2 (fun h => absurd h (by simp)) fun _ => ?_⟩⟩⟩
          exact ⟨_, rfl, rfl, _, rfl, iteT ⟨_, rfl, rfl, Qk H1 s1⟩⟩
        | bool z =>
          have ha : x = _ := ha
          have hb : y = _ := hb
          subst ha hb
          refine iteF ⟨_, rfl, _, _, _, _, _, rfl, .ty _, ty, kit_ty (kb _), _, rfl, _, _, _, _, _, rfl, .ty _, tx, kit_ty (kb _), rfl, _, rfl, ite2 (fun h => absurd h (by simp)) fun _ => ⟨_, rfl, _, _, _, _, _, rfl, .ty _, ty, kit_ty (ki _), _, rfl, _, _, _, _, _, rfl, .ty _, tx, kit_ty (ki _), rfl, _, rfl, ite2 (fun h => absurd h (by simp)) fun _ => ⟨_, rfl, _, _, _, _, _, rfl, .ty _, ty, kit_ty (ks _), _, rfl, _, _, _, _, _, rfl, .ty _, tx, kit_ty (ks _), rfl, _, rfl, ite2 (fun h => absurd h (by simp)) fun _ => ?_⟩⟩⟩
          refine ⟨_, rfl, rfl, _, rfl, iteF ⟨_, rfl, rfl, _, rfl, iteT ⟨_, rfl, _, rfl, rfl, ?_⟩⟩⟩
          rw [decide_eq_true rfl]
          exact Qk H1 s1
        | int z =>
          have ha : x = _ := ha
          have hb : y = _ := hb
          subst ha hb
          refine iteF ⟨_, rfl, _, _, _, _, _, rfl, .ty _, ty, kit_ty (kb _), _, rfl, _, _, _, _, _, rfl, .ty _, tx, kit_ty (kb _), rfl, _, rfl, ite2 (fun h => absurd h (by simp)) fun _ => ⟨_, rfl, _, _, _, _, _, rfl, .ty _, ty, kit_ty (ki _), _, rfl, _, _, _, _, _, rfl, .ty _, tx, kit_ty (ki _), rfl, _, rfl, ite2 (fun h => absurd h (by simp)) fun _ => ⟨_, rfl, _, _, _, _, _, rfl, .ty _, ty, kit_ty (ks _), _, rfl, _, _, _, _, _, rfl, .ty _, tx, kit_ty (ks _), rfl, _, rfl, ite2 (fun h => absurd h (by simp)) fun _ => ?_⟩⟩⟩
          refine ⟨_, rfl, rfl, _, rfl, iteF ⟨_, rfl, rfl, _, rfl, iteT ⟨_, rfl, _, rfl, rfl, ?_⟩⟩⟩
          rw [decide_eq_true rfl]
          exact Qk H1 s1
        | str z =>
          have ha : x = _ := ha
          have hb : y = _ := hb
          subst ha hb
          refine iteF ⟨_, rfl, _, _, _, _, _, rfl, .ty _, ty, kit_ty (kb _), _, rfl, _, _, _, _, _, rfl, .ty _, tx, kit_ty (kb _), rfl, _, rfl, ite2 (fun h => absurd h (by simp)) fun _ => ⟨_, rfl, _, _, _, _, _, rfl, .ty _, ty, kit_ty (ki _), _, rfl, _, _, _, _, _, rfl, .ty _, tx, kit_ty (ki _), rfl, _, rfl, ite2 (fun h => absurd h (by simp)) fun _ => ⟨_, rfl, _, _, _, _, _, rfl, .ty _, ty, kit_ty (ks _), _, rfl, _, _, _, _, _, rfl, .ty _, tx, kit_ty (ks _), rfl, _, rfl, ite2 (fun h => absurd h (by simp)) fun _ => ?_⟩⟩⟩
          refine ⟨_, rfl, rfl, _, rfl, iteF ⟨_, rfl, rfl, _, rfl, iteT ⟨_, rfl, _, rfl, rfl, ?_⟩⟩⟩
          rw [decide_eq_true rfl]
          exact Qk H1 s1
        | _ => exact ha.elim
      · cases d with
        | list ds =>
          obtain ⟨a, xs, rfl, _, g, l, r⟩ := hq
          obtain ⟨b, ys, rfl, _, g2, l2, r2⟩ := hy1.resolve_left fun q => q
          have e1 := Paired.length r
          have e2 := Paired.length r2
          refine iteT ⟨_, rfl, _, _, _, _, _, rfl, .ty _, tx, kit_ty (kl _), _, rfl, _, _, _, _, _, rfl, .ty _, ty, kit_ty (kl _), rfl, _, rfl, ite2 (fun h => absurd h (by simp)) fun _ => ⟨_, rfl, _, _, _, _, _, rfl, .ty _, tx, kit_ty (kt _), _, rfl, _, _, _, _, _, rfl, .ty _, ty, kit_ty (kt _), rfl, _, rfl, ite2 (fun h => absurd h (by simp)) fun _ => ?_⟩⟩
          refine ⟨_, rfl, a, xs, rfl, .inl (SqL.of g), _, rfl, b, ys, rfl, .inl (SqL.of g2), rfl, _, rfl, ?_⟩
          rw [decide_eq_true (by rw [e1, e2])]
          refine iteT ⟨_, rfl, b, ys, rfl, .inl (SqL.of g2), _, rfl, by omega, by omega, fun D hD => lc_range (lo := 0) (n := (ys.length : Int).toNat) (fun i H' => Same H1 H' ∧ H' D = some (.lst ((List.replicate i true).map V.bl))) ⟨same_new hD, upd_same⟩ ?_ ?_⟩
          · rintro i H' hi ⟨s2, eD⟩
            have hi2 : i < ys.length := by omega
            have hx3 : xs[i]? = some (xs[i]'(by omega)) := List.getElem?_eq_getElem (by omega)
            have hy3 : ys[i]? = some ys[i] := List.getElem?_eq_getElem hi2
            obtain ⟨z, hz, n1⟩ := Paired.get r hx3
            obtain ⟨z2, hz2, n2⟩ := Paired.get r2 hy3
            have ez : z2 = z := Option.some.inj (hz2.symm.trans hz)
            subst ez
            refine ⟨rfl, ⟨_, rfl, _, rfl, Or.inl ⟨a, xs, _, _, rfl, rfl, SqL.of (s2 _ _ g), at_of (j := i) (by omega) hx3, _, rfl, _, rfl, Or.inl ⟨b, ys, _, _, rfl, rfl, SqL.of (s2 _ _ g2), at_of (j := i) (by omega) hy3, ?_⟩⟩⟩⟩
            refine ⟨_, _, z2, rfl, n1.same s2, n2.same s2, fun H4 s4 => ⟨_, s4 _ _ eD, ?_, ?_, ?_⟩⟩
            · rw [List.length_map, List.length_replicate]
              exact Nat.lt_of_lt_of_le (show i < 1001 by omega) (by decide)
            · intro q o e
              rw [upd_ne (ne_of_none e hD)]
              exact s4 _ _ (s2 _ _ e)
            · rw [upd_same, List.replicate_succ', List.map_append]
              rfl
          · rintro H' ⟨s2, eD⟩
            refine ⟨D, _, rfl, SqL.of eD, ?_⟩
            have ea : (List.replicate (ys.length : Int).toNat true).all id = true := by simp
            rw [ea]
            exact Qk H' (s1.trans s2)
        | tuple ds =>
          obtain ⟨a, xs, rfl, _, g, l, r⟩ := hq
          obtain ⟨b, ys, rfl, _, g2, l2, r2⟩ := hy1.resolve_left fun q => q
          have e1 := Paired.length r
          have e2 := Paired.length r2
          refine iteT ⟨_, rfl, _, _, _, _, _, rfl, .ty _, tx, kit_ty (kl _), _, rfl, _, _, _, _, _, rfl, .ty _, ty, kit_ty (kl _), rfl, _, rfl, ite2 (fun h => absurd h (by simp)) fun _ => ⟨_, rfl, _, _, _, _, _, rfl, .ty _, tx, kit_ty (kt _), _, rfl, _, _, _, _, _, rfl, .ty _, ty, kit_ty (kt _), rfl, _, rfl, ite2 (fun h => absurd h (by simp)) fun _ => ?_⟩⟩
          refine ⟨_, rfl, a, xs, rfl, .inr (SqT.of g), _, rfl, b, ys, rfl, .inr (SqT.of g2), rfl, _, rfl, ?_⟩
          rw [decide_eq_true (by rw [e1, e2])]
          refine iteT ⟨_, rfl, b, ys, rfl, .inr (SqT.of g2), _, rfl, by omega, by omega, fun D hD => lc_range (lo := 0) (n := (ys.length : Int).toNat) (fun i H' => Same H1 H' ∧ H' D = some (.lst ((List.replicate i true).map V.bl))) ⟨same_new hD, upd_same⟩ ?_ ?_⟩
          · rintro i H' hi ⟨s2, eD⟩
            have hi2 : i < ys.length := by omega
            have hx3 : xs[i]? = some (xs[i]'(by omega)) := List.getElem?_eq_getElem (by omega)
            have hy3 : ys[i]? = some ys[i] := List.getElem?_eq_getElem hi2
            obtain ⟨z, hz, n1⟩ := Paired.get r hx3
            obtain ⟨z2, hz2, n2⟩ := Paired.get r2 hy3
            have ez : z2 = z := Option.some.inj (hz2.symm.trans hz)
            subst ez
            refine ⟨rfl, ⟨_, rfl, _, rfl, Or.inr <| Or.inl ⟨a, xs, _, _, rfl, rfl, SqT.of (s2 _ _ g), at_of (j := i) (by omega) hx3, _, rfl, _, rfl, Or.inr <| Or.inl ⟨b, ys, _, _, rfl, rfl, SqT.of (s2 _ _ g2), at_of (j := i) (by omega) hy3, ?_⟩⟩⟩⟩
            refine ⟨_, _, z2, rfl, n1.same s2, n2.same s2, fun H4 s4 => ⟨_, s4 _ _ eD, ?_, ?_, ?_⟩⟩
            · rw [List.length_map, List.length_replicate]
              exact Nat.lt_of_lt_of_le (show i < 1001 by omega) (by decide)
            · intro q o e
              rw [upd_ne (ne_of_none e hD)]
              exact s4 _ _ (s2 _ _ e)
            · rw [upd_same, List.replicate_succ', List.map_append]
              rfl
          · rintro H' ⟨s2, eD⟩
            refine ⟨D, _, rfl, SqL.of eD, ?_⟩
            have ea : (List.replicate (ys.length : Int).toNat true).all id = true := by simp
            rw [ea]
            exact Qk H' (s1.trans s2)
        | _ => exact hq.elim
end
end K75

set_option maxHeartbeats 4000000
namespace K75
open PySem PySem.Spec PyProof.Rows L2
section
variable {P : Program} {w : World} {K : PySem.W.Frag} {mg : Str → Option Value} {base : Heap}
abbrev D4 (H0 H : Hp) (v : V) (ds : List PyData) : Prop := New H0 H 4 v (.list ds)
/-- a method that hands back a copy of a field -/
def spGet (C : Addr) (f : Str) : Sp := fun vs H Q _ => ∃ a dx fs v ds, vs = [.ref a] ∧ H a = some (.ins C dx fs) ∧ fs.lookup f = some v ∧ D4 Z H v ds ∧ ∀ v' H', Same H H' → D4 H H' v' ds → Q v' H'
/-- .. of a part of the field own_parts -/
def spPart (C : Addr) (i : Nat) : Sp := fun vs H Q _ => ∃ a dx fs t xs v ds, vs = [.ref a] ∧ H a = some (.ins C dx fs) ∧ fs.lookup ("own_parts" : Str) = some (V.ref t) ∧ H t = some (.tup xs) ∧ xs[i]? = some v ∧ D4 Z H v ds ∧ ∀ v' H', Same H H' → D4 H H' v' ds → Q v' H'
theorem Box.monoS {F G : V → PyData → Prop} {H0 H0' H H' : Hp} (hF : ∀ v d, F v d → G v d) (h0 : ∀ a, H0 a = none → H0' a = none) (hl : ∀ a xs, H0 a = none → H a = some (.lst xs) → H' a = some (.lst xs)) (ht : ∀ a xs, H0 a = none → H a = some (.tup xs) → H' a = some (.tup xs)) {v : V} {d : PyData} (q : Box F H0 H v d) : Box G H0' H' v d := by
  cases d with
  | list ds =>
    obtain ⟨a, xs, e, f, g, l, r⟩ := q
    exact ⟨a, xs, e, h0 _ f, hl _ _ f g, l, Paired.map2 r hF⟩
  | tuple ds =>
    obtain ⟨a, xs, e, f, g, l, r⟩ := q
    exact ⟨a, xs, e, h0 _ f, ht _ _ f g, l, Paired.map2 r hF⟩
  | _ => exact q
theorem New.monoS {H0 H0' H H' : Hp} (h0 : ∀ a, H0 a = none → H0' a = none) (hl : ∀ a xs, H0 a = none → H a = some (.lst xs) → H' a = some (.lst xs)) (ht : ∀ a xs, H0 a = none → H a = some (.tup xs) → H' a = some (.tup xs)) : ∀ (n : Nat) (v : V) (d : PyData), New H0 H n v d → New H0' H' n v d
  | 0, _, _, q => q
  | n + 1, v, d, .inl q => .inl q
  | n + 1, v, d, .inr q => .inr (q.monoS (New.monoS h0 hl ht n) h0 hl ht)
/-- an instance at a is being filled; all else is as it was -/
structure Ini (C : Addr) (H H' : Hp) (a dx : Addr) (fs : List (Str × V)) : Prop where
  old : ∃ g, H a = some (.ins C dx g)
  keep : ∀ b o, b ≠ a → H b = some o → H' b = some o
  ins : H' a = some (.ins C dx fs)
section
variable {C a dx : Addr} {H H1 H2 : Hp} {fs gs : List (Str × V)} {n : Nat} {v : V} {d : PyData}
theorem Ini.refl (h : H a = some (.ins C dx fs)) : Ini C H H a dx fs := ⟨⟨_, h⟩, fun _ _ _ e => e, h⟩
theorem Ini.step (I : Ini C H H1 a dx fs) (s : Same H1 H2) : Ini C H (upd H2 a (.ins C dx gs)) a dx gs :=
  ⟨I.old, fun b o n e => by rw [upd_ne n]; exact s _ _ (I.keep b o n e), upd_same⟩
theorem Ini.data (I : Ini C H H1 a dx fs) (q : New Z H n v d) : New Z H1 n v d := by
  obtain ⟨g, e⟩ := I.old
  exact New.monoS (fun _ _ => rfl) (fun b xs _ h => I.keep b _ (fun z => by rw [z, e] at h; cases h) h) (fun b xs _ h => I.keep b _ (fun z => by rw [z, e] at h; cases h) h) _ _ _ q
theorem Ini.new (I : Ini C H H1 a dx fs) (q : New H1 H2 n v d) : New H (upd H2 a (.ins C dx gs)) n v d := by
  obtain ⟨g, e⟩ := I.old
  have na : ∀ b, H1 b = none → b ≠ a := fun b h z => by rw [z, I.ins] at h; cases h
  refine New.monoS (fun b h => ?_) (fun b xs f h => by rw [upd_ne (na b f)]; exact h) (fun b xs f h => by rw [upd_ne (na b f)]; exact h) _ _ _ q
  cases hb : H b with
  | none => rfl
  | some o =>
    rw [I.keep b o (na b h) hb] at h
    cases h
theorem Ini.more (I : Ini C H H1 a dx fs) (s : Same H1 H2) (q : New H H1 n v d) : New H (upd H2 a (.ins C dx gs)) n v d := by
  obtain ⟨g, e⟩ := I.old
  have na : ∀ b, H b = none → b ≠ a := fun b h z => by rw [z, e] at h; cases h
  exact New.monoS (fun _ f => f) (fun b xs f h => by rw [upd_ne (na b f)]; exact s _ _ h) (fun b xs f h => by rw [upd_ne (na b f)]; exact s _ _ h) _ _ _ q
end
theorem same_ins {H : Hp} {a : Addr} {o : HO} : ∀ b u, b ≠ a → H b = some u → upd H a o b = some u := fun b u n e => by rw [upd_ne n]; exact e

theorem sc_Safe_table : FnScope ["self"] ["self"] (defScope s_Safe_table) := ⟨rfl, rfl, rfl, by decide +kernel, rfl, by decide +kernel, by decide +kernel⟩
theorem ok_Safe_table (F : FnP K "table" "Safe.table" s_Safe_table (He.ma K (He.ga K "Safe") "table")) (cl : Cls K (He.ga K "Safe")) (na : NoAttr K (He.ga K "Safe") "own_table") (mr : mg "row_copy" = some (.ref (He.ga K "row_copy"))) (kr : PySem.W.keepIn K (.ref (He.ga K "row_copy")) = true)
    (GR : OkF P w K mg base 5 (He.ga K "row_copy") ["value"] (spRow 3)) : OkF P w K mg base 6 (He.ma K (He.ga K "Safe") "table") ["self"] (spGet (He.ga K "Safe") "own_table") := by
  obtain ⟨fd, F⟩ := F
  obtain ⟨fdR, GR, bR⟩ := GR
  refine ⟨fd, F.ok sc_Safe_table (fun vs H Q E h => ?_) (fun cdv A outer s H vs Q E hr h => ?_), F.bindsN fun _ _ _ _ _ _ us hl => match us, hl with | [_], _ => rfl⟩
  · obtain ⟨a, dx, fs, v, ds, rfl, _⟩ := h
    rfl
  · obtain ⟨a, dx, fs, v, ds, rfl, ha, hf, hv, Qk⟩ := h
    refine ⟨_, PSs.nox (pss_one (ps_ret (pe_call GR hr rfl mr kr bR .nil pass0 (pa_cons (pe_fld (pv 0) rfl) pa_nil)))), ?_⟩
    exact ⟨_, rfl, a, _, dx, fs, v, rfl, ha, cl, na, hf, v, ds, rfl, hv, Qk⟩
theorem sc_Harmed_events : FnScope ["self"] ["self"] (defScope s_Harmed_events) := ⟨rfl, rfl, rfl, by decide +kernel, rfl, by decide +kernel, by decide +kernel⟩
theorem ok_Harmed_events (F : FnP K "events" "Harmed.events" s_Harmed_events (He.ma K (He.ga K "Harmed") "events")) (cl : Cls K (He.ga K "Harmed")) (na : NoAttr K (He.ga K "Harmed") "own_events") (mr : mg "row_copy" = some (.ref (He.ga K "row_copy"))) (kr : PySem.W.keepIn K (.ref (He.ga K "row_copy")) = true)
    (GR : OkF P w K mg base 5 (He.ga K "row_copy") ["value"] (spRow 3)) : OkF P w K mg base 6 (He.ma K (He.ga K "Harmed") "events") ["self"] (spGet (He.ga K "Harmed") "own_events") := by
  obtain ⟨fd, F⟩ := F
  obtain ⟨fdR, GR, bR⟩ := GR
  refine ⟨fd, F.ok sc_Harmed_events (fun vs H Q E h => ?_) (fun cdv A outer s H vs Q E hr h => ?_), F.bindsN fun _ _ _ _ _ _ us hl => match us, hl with | [_], _ => rfl⟩
  · obtain ⟨a, dx, fs, v, ds, rfl, _⟩ := h
    rfl
  · obtain ⟨a, dx, fs, v, ds, rfl, ha, hf, hv, Qk⟩ := h
    refine ⟨_, PSs.nox (pss_one (ps_ret (pe_call GR hr rfl mr kr bR .nil pass0 (pa_cons (pe_fld (pv 0) rfl) pa_nil)))), ?_⟩
    exact ⟨_, rfl, a, _, dx, fs, v, rfl, ha, cl, na, hf, v, ds, rfl, hv, Qk⟩
theorem sc_Bounded_events : FnScope ["self"] ["self"] (defScope s_Bounded_events) := ⟨rfl, rfl, rfl, by decide +kernel, rfl, by decide +kernel, by decide +kernel⟩
theorem ok_Bounded_events (F : FnP K "events" "Bounded.events" s_Bounded_events (He.ma K (He.ga K "Bounded") "events")) (cl : Cls K (He.ga K "Bounded")) (na : NoAttr K (He.ga K "Bounded") "own_events") (mr : mg "row_copy" = some (.ref (He.ga K "row_copy"))) (kr : PySem.W.keepIn K (.ref (He.ga K "row_copy")) = true)
    (GR : OkF P w K mg base 5 (He.ga K "row_copy") ["value"] (spRow 3)) : OkF P w K mg base 6 (He.ma K (He.ga K "Bounded") "events") ["self"] (spGet (He.ga K "Bounded") "own_events") := by
  obtain ⟨fd, F⟩ := F
  obtain ⟨fdR, GR, bR⟩ := GR
  refine ⟨fd, F.ok sc_Bounded_events (fun vs H Q E h => ?_) (fun cdv A outer s H vs Q E hr h => ?_), F.bindsN fun _ _ _ _ _ _ us hl => match us, hl with | [_], _ => rfl⟩
  · obtain ⟨a, dx, fs, v, ds, rfl, _⟩ := h
    rfl
  · obtain ⟨a, dx, fs, v, ds, rfl, ha, hf, hv, Qk⟩ := h
    refine ⟨_, PSs.nox (pss_one (ps_ret (pe_call GR hr rfl mr kr bR .nil pass0 (pa_cons (pe_fld (pv 0) rfl) pa_nil)))), ?_⟩
    exact ⟨_, rfl, a, _, dx, fs, v, rfl, ha, cl, na, hf, v, ds, rfl, hv, Qk⟩
theorem sc_Bounded_standings : FnScope ["self"] ["self"] (defScope s_Bounded_standings) := ⟨rfl, rfl, rfl, by decide +kernel, rfl, by decide +kernel, by decide +kernel⟩
theorem ok_Bounded_standings (F : FnP K "standings" "Bounded.standings" s_Bounded_standings (He.ma K (He.ga K "Bounded") "standings")) (cl : Cls K (He.ga K "Bounded")) (na : NoAttr K (He.ga K "Bounded") "own_standings") (mr : mg "row_copy" = some (.ref (He.ga K "row_copy"))) (kr : PySem.W.keepIn K (.ref (He.ga K "row_copy")) = true)
    (GR : OkF P w K mg base 5 (He.ga K "row_copy") ["value"] (spRow 3)) : OkF P w K mg base 6 (He.ma K (He.ga K "Bounded") "standings") ["self"] (spGet (He.ga K "Bounded") "own_standings") := by
  obtain ⟨fd, F⟩ := F
  obtain ⟨fdR, GR, bR⟩ := GR
  refine ⟨fd, F.ok sc_Bounded_standings (fun vs H Q E h => ?_) (fun cdv A outer s H vs Q E hr h => ?_), F.bindsN fun _ _ _ _ _ _ us hl => match us, hl with | [_], _ => rfl⟩
  · obtain ⟨a, dx, fs, v, ds, rfl, _⟩ := h
    rfl
  · obtain ⟨a, dx, fs, v, ds, rfl, ha, hf, hv, Qk⟩ := h
    refine ⟨_, PSs.nox (pss_one (ps_ret (pe_call GR hr rfl mr kr bR .nil pass0 (pa_cons (pe_fld (pv 0) rfl) pa_nil)))), ?_⟩
    exact ⟨_, rfl, a, _, dx, fs, v, rfl, ha, cl, na, hf, v, ds, rfl, hv, Qk⟩
theorem sc_Bounded_heights : FnScope ["self"] ["self"] (defScope s_Bounded_heights) := ⟨rfl, rfl, rfl, by decide +kernel, rfl, by decide +kernel, by decide +kernel⟩
theorem ok_Bounded_heights (F : FnP K "heights" "Bounded.heights" s_Bounded_heights (He.ma K (He.ga K "Bounded") "heights")) (cl : Cls K (He.ga K "Bounded")) (na : NoAttr K (He.ga K "Bounded") "own_heights") (mr : mg "row_copy" = some (.ref (He.ga K "row_copy"))) (kr : PySem.W.keepIn K (.ref (He.ga K "row_copy")) = true)
    (GR : OkF P w K mg base 5 (He.ga K "row_copy") ["value"] (spRow 3)) : OkF P w K mg base 6 (He.ma K (He.ga K "Bounded") "heights") ["self"] (spGet (He.ga K "Bounded") "own_heights") := by
  obtain ⟨fd, F⟩ := F
  obtain ⟨fdR, GR, bR⟩ := GR
  refine ⟨fd, F.ok sc_Bounded_heights (fun vs H Q E h => ?_) (fun cdv A outer s H vs Q E hr h => ?_), F.bindsN fun _ _ _ _ _ _ us hl => match us, hl with | [_], _ => rfl⟩
  · obtain ⟨a, dx, fs, v, ds, rfl, _⟩ := h
    rfl
  · obtain ⟨a, dx, fs, v, ds, rfl, ha, hf, hv, Qk⟩ := h
    refine ⟨_, PSs.nox (pss_one (ps_ret (pe_call GR hr rfl mr kr bR .nil pass0 (pa_cons (pe_fld (pv 0) rfl) pa_nil)))), ?_⟩
    exact ⟨_, rfl, a, _, dx, fs, v, rfl, ha, cl, na, hf, v, ds, rfl, hv, Qk⟩
theorem sc_Endless_lead : FnScope ["self"] ["self"] (defScope s_Endless_lead) := ⟨rfl, rfl, rfl, by decide +kernel, rfl, by decide +kernel, by decide +kernel⟩
theorem ok_Endless_lead (F : FnP K "lead" "Endless.lead" s_Endless_lead (He.ma K (He.ga K "Endless") "lead")) (cl : Cls K (He.ga K "Endless")) (na : NoAttr K (He.ga K "Endless") "own_parts") (mr : mg "row_copy" = some (.ref (He.ga K "row_copy"))) (kr : PySem.W.keepIn K (.ref (He.ga K "row_copy")) = true)
    (GR : OkF P w K mg base 5 (He.ga K "row_copy") ["value"] (spRow 3)) : OkF P w K mg base 6 (He.ma K (He.ga K "Endless") "lead") ["self"] (spPart (He.ga K "Endless") 0) := by
  obtain ⟨fd, F⟩ := F
  obtain ⟨fdR, GR, bR⟩ := GR
  refine ⟨fd, F.ok sc_Endless_lead (fun vs H Q E h => ?_) (fun cdv A outer s H vs Q E hr h => ?_), F.bindsN fun _ _ _ _ _ _ us hl => match us, hl with | [_], _ => rfl⟩
  · obtain ⟨a, dx, fs, t, xs, v, ds, rfl, _⟩ := h
    rfl
  · obtain ⟨a, dx, fs, t, xs, v, ds, rfl, ha, hf, ht, hi, hv, Qk⟩ := h
    refine ⟨_, PSs.nox (pss_one (ps_ret (pe_call GR hr rfl mr kr bR .nil pass0 (pa_cons (pe_ix ix_tup (pe_fld (pv 0) rfl) pe_int (fun _ _ => rfl)) pa_nil)))), ?_⟩
    exact ⟨_, rfl, a, _, dx, fs, _, rfl, ha, cl, na, hf, t, xs, _, v, rfl, rfl, SqT.of ht, at_of (j := 0) (by rfl) hi, v, ds, rfl, hv, Qk⟩
theorem sc_Endless_ring : FnScope ["self"] ["self"] (defScope s_Endless_ring) := ⟨rfl, rfl, rfl, by decide +kernel, rfl, by decide +kernel, by decide +kernel⟩
theorem ok_Endless_ring (F : FnP K "ring" "Endless.ring" s_Endless_ring (He.ma K (He.ga K "Endless") "ring")) (cl : Cls K (He.ga K "Endless")) (na : NoAttr K (He.ga K "Endless") "own_parts") (mr : mg "row_copy" = some (.ref (He.ga K "row_copy"))) (kr : PySem.W.keepIn K (.ref (He.ga K "row_copy")) = true)
    (GR : OkF P w K mg base 5 (He.ga K "row_copy") ["value"] (spRow 3)) : OkF P w K mg base 6 (He.ma K (He.ga K "Endless") "ring") ["self"] (spPart (He.ga K "Endless") 1) := by
  obtain ⟨fd, F⟩ := F
  obtain ⟨fdR, GR, bR⟩ := GR
  refine ⟨fd, F.ok sc_Endless_ring (fun vs H Q E h => ?_) (fun cdv A outer s H vs Q E hr h => ?_), F.bindsN fun _ _ _ _ _ _ us hl => match us, hl with | [_], _ => rfl⟩
  · obtain ⟨a, dx, fs, t, xs, v, ds, rfl, _⟩ := h
    rfl
  · obtain ⟨a, dx, fs, t, xs, v, ds, rfl, ha, hf, ht, hi, hv, Qk⟩ := h
    refine ⟨_, PSs.nox (pss_one (ps_ret (pe_call GR hr rfl mr kr bR .nil pass0 (pa_cons (pe_ix ix_tup (pe_fld (pv 0) rfl) pe_int (fun _ _ => rfl)) pa_nil)))), ?_⟩
    exact ⟨_, rfl, a, _, dx, fs, _, rfl, ha, cl, na, hf, t, xs, _, v, rfl, rfl, SqT.of ht, at_of (j := 1) (by rfl) hi, v, ds, rfl, hv, Qk⟩
theorem sc_Endless_tail : FnScope ["self"] ["self"] (defScope s_Endless_tail) := ⟨rfl, rfl, rfl, by decide +kernel, rfl, by decide +kernel, by decide +kernel⟩
theorem ok_Endless_tail (F : FnP K "tail" "Endless.tail" s_Endless_tail (He.ma K (He.ga K "Endless") "tail")) (cl : Cls K (He.ga K "Endless")) (na : NoAttr K (He.ga K "Endless") "own_parts") (mr : mg "row_copy" = some (.ref (He.ga K "row_copy"))) (kr : PySem.W.keepIn K (.ref (He.ga K "row_copy")) = true)
    (GR : OkF P w K mg base 5 (He.ga K "row_copy") ["value"] (spRow 3)) : OkF P w K mg base 6 (He.ma K (He.ga K "Endless") "tail") ["self"] (spPart (He.ga K "Endless") 2) := by
  obtain ⟨fd, F⟩ := F
  obtain ⟨fdR, GR, bR⟩ := GR
  refine ⟨fd, F.ok sc_Endless_tail (fun vs H Q E h => ?_) (fun cdv A outer s H vs Q E hr h => ?_), F.bindsN fun _ _ _ _ _ _ us hl => match us, hl with | [_], _ => rfl⟩
  · obtain ⟨a, dx, fs, t, xs, v, ds, rfl, _⟩ := h
    rfl
  · obtain ⟨a, dx, fs, t, xs, v, ds, rfl, ha, hf, ht, hi, hv, Qk⟩ := h
    refine ⟨_, PSs.nox (pss_one (ps_ret (pe_call GR hr rfl mr kr bR .nil pass0 (pa_cons (pe_ix ix_tup (pe_fld (pv 0) rfl) pe_int (fun _ _ => rfl)) pa_nil)))), ?_⟩
    exact ⟨_, rfl, a, _, dx, fs, _, rfl, ha, cl, na, hf, t, xs, _, v, rfl, rfl, SqT.of ht, at_of (j := 2) (by rfl) hi, v, ds, rfl, hv, Qk⟩
theorem sc_Even_events : FnScope ["self"] ["self"] (defScope s_Even_events) := ⟨rfl, rfl, rfl, by decide +kernel, rfl, by decide +kernel, by decide +kernel⟩
theorem ok_Even_events (F : FnP K "events" "Even.events" s_Even_events (He.ma K (He.ga K "Even") "events")) (cl : Cls K (He.ga K "Even")) (na : NoAttr K (He.ga K "Even") "own_events") (mr : mg "row_copy" = some (.ref (He.ga K "row_copy"))) (kr : PySem.W.keepIn K (.ref (He.ga K "row_copy")) = true)
    (GR : OkF P w K mg base 5 (He.ga K "row_copy") ["value"] (spRow 3)) : OkF P w K mg base 6 (He.ma K (He.ga K "Even") "events") ["self"] (spGet (He.ga K "Even") "own_events") := by
  obtain ⟨fd, F⟩ := F
  obtain ⟨fdR, GR, bR⟩ := GR
  refine ⟨fd, F.ok sc_Even_events (fun vs H Q E h => ?_) (fun cdv A outer s H vs Q E hr h => ?_), F.bindsN fun _ _ _ _ _ _ us hl => match us, hl with | [_], _ => rfl⟩
  · obtain ⟨a, dx, fs, v, ds, rfl, _⟩ := h
    rfl
  · obtain ⟨a, dx, fs, v, ds, rfl, ha, hf, hv, Qk⟩ := h
    refine ⟨_, PSs.nox (pss_one (ps_ret (pe_call GR hr rfl mr kr bR .nil pass0 (pa_cons (pe_fld (pv 0) rfl) pa_nil)))), ?_⟩
    exact ⟨_, rfl, a, _, dx, fs, v, rfl, ha, cl, na, hf, v, ds, rfl, hv, Qk⟩
theorem sc_Uneven_lead : FnScope ["self"] ["self"] (defScope s_Uneven_lead) := ⟨rfl, rfl, rfl, by decide +kernel, rfl, by decide +kernel, by decide +kernel⟩
theorem ok_Uneven_lead (F : FnP K "lead" "Uneven.lead" s_Uneven_lead (He.ma K (He.ga K "Uneven") "lead")) (cl : Cls K (He.ga K "Uneven")) (na : NoAttr K (He.ga K "Uneven") "own_parts") (mr : mg "row_copy" = some (.ref (He.ga K "row_copy"))) (kr : PySem.W.keepIn K (.ref (He.ga K "row_copy")) = true)
    (GR : OkF P w K mg base 5 (He.ga K "row_copy") ["value"] (spRow 3)) : OkF P w K mg base 6 (He.ma K (He.ga K "Uneven") "lead") ["self"] (spPart (He.ga K "Uneven") 0) := by
  obtain ⟨fd, F⟩ := F
  obtain ⟨fdR, GR, bR⟩ := GR
  refine ⟨fd, F.ok sc_Uneven_lead (fun vs H Q E h => ?_) (fun cdv A outer s H vs Q E hr h => ?_), F.bindsN fun _ _ _ _ _ _ us hl => match us, hl with | [_], _ => rfl⟩
  · obtain ⟨a, dx, fs, t, xs, v, ds, rfl, _⟩ := h
    rfl
  · obtain ⟨a, dx, fs, t, xs, v, ds, rfl, ha, hf, ht, hi, hv, Qk⟩ := h
    refine ⟨_, PSs.nox (pss_one (ps_ret (pe_call GR hr rfl mr kr bR .nil pass0 (pa_cons (pe_ix ix_tup (pe_fld (pv 0) rfl) pe_int (fun _ _ => rfl)) pa_nil)))), ?_⟩
    exact ⟨_, rfl, a, _, dx, fs, _, rfl, ha, cl, na, hf, t, xs, _, v, rfl, rfl, SqT.of ht, at_of (j := 0) (by rfl) hi, v, ds, rfl, hv, Qk⟩
theorem sc_Uneven_ring : FnScope ["self"] ["self"] (defScope s_Uneven_ring) := ⟨rfl, rfl, rfl, by decide +kernel, rfl, by decide +kernel, by decide +kernel⟩
theorem ok_Uneven_ring (F : FnP K "ring" "Uneven.ring" s_Uneven_ring (He.ma K (He.ga K "Uneven") "ring")) (cl : Cls K (He.ga K "Uneven")) (na : NoAttr K (He.ga K "Uneven") "own_parts") (mr : mg "row_copy" = some (.ref (He.ga K "row_copy"))) (kr : PySem.W.keepIn K (.ref (He.ga K "row_copy")) = true)
    (GR : OkF P w K mg base 5 (He.ga K "row_copy") ["value"] (spRow 3)) : OkF P w K mg base 6 (He.ma K (He.ga K "Uneven") "ring") ["self"] (spPart (He.ga K "Uneven") 1) := by
  obtain ⟨fd, F⟩ := F
  obtain ⟨fdR, GR, bR⟩ := GR
  refine ⟨fd, F.ok sc_Uneven_ring (fun vs H Q E h => ?_) (fun cdv A outer s H vs Q E hr h => ?_), F.bindsN fun _ _ _ _ _ _ us hl => match us, hl with | [_], _ => rfl⟩
  · obtain ⟨a, dx, fs, t, xs, v, ds, rfl, _⟩ := h
    rfl
  · obtain ⟨a, dx, fs, t, xs, v, ds, rfl, ha, hf, ht, hi, hv, Qk⟩ := h
    refine ⟨_, PSs.nox (pss_one (ps_ret (pe_call GR hr rfl mr kr bR .nil pass0 (pa_cons (pe_ix ix_tup (pe_fld (pv 0) rfl) pe_int (fun _ _ => rfl)) pa_nil)))), ?_⟩
    exact ⟨_, rfl, a, _, dx, fs, _, rfl, ha, cl, na, hf, t, xs, _, v, rfl, rfl, SqT.of ht, at_of (j := 1) (by rfl) hi, v, ds, rfl, hv, Qk⟩
theorem sc_Alike_pairs : FnScope ["self"] ["self"] (defScope s_Alike_pairs) := ⟨rfl, rfl, rfl, by decide +kernel, rfl, by decide +kernel, by decide +kernel⟩
theorem ok_Alike_pairs (F : FnP K "pairs" "Alike.pairs" s_Alike_pairs (He.ma K (He.ga K "Alike") "pairs")) (cl : Cls K (He.ga K "Alike")) (na : NoAttr K (He.ga K "Alike") "own_pairs") (mr : mg "row_copy" = some (.ref (He.ga K "row_copy"))) (kr : PySem.W.keepIn K (.ref (He.ga K "row_copy")) = true)
    (GR : OkF P w K mg base 5 (He.ga K "row_copy") ["value"] (spRow 3)) : OkF P w K mg base 6 (He.ma K (He.ga K "Alike") "pairs") ["self"] (spGet (He.ga K "Alike") "own_pairs") := by
  obtain ⟨fd, F⟩ := F
  obtain ⟨fdR, GR, bR⟩ := GR
  refine ⟨fd, F.ok sc_Alike_pairs (fun vs H Q E h => ?_) (fun cdv A outer s H vs Q E hr h => ?_), F.bindsN fun _ _ _ _ _ _ us hl => match us, hl with | [_], _ => rfl⟩
  · obtain ⟨a, dx, fs, v, ds, rfl, _⟩ := h
    rfl
  · obtain ⟨a, dx, fs, v, ds, rfl, ha, hf, hv, Qk⟩ := h
    refine ⟨_, PSs.nox (pss_one (ps_ret (pe_call GR hr rfl mr kr bR .nil pass0 (pa_cons (pe_fld (pv 0) rfl) pa_nil)))), ?_⟩
    exact ⟨_, rfl, a, _, dx, fs, v, rfl, ha, cl, na, hf, v, ds, rfl, hv, Qk⟩
theorem sc_Unlike_heard : FnScope ["self"] ["self"] (defScope s_Unlike_heard) := ⟨rfl, rfl, rfl, by decide +kernel, rfl, by decide +kernel, by decide +kernel⟩
theorem ok_Unlike_heard (F : FnP K "heard" "Unlike.heard" s_Unlike_heard (He.ma K (He.ga K "Unlike") "heard")) (cl : Cls K (He.ga K "Unlike")) (na : NoAttr K (He.ga K "Unlike") "own_heard") (mr : mg "row_copy" = some (.ref (He.ga K "row_copy"))) (kr : PySem.W.keepIn K (.ref (He.ga K "row_copy")) = true)
    (GR : OkF P w K mg base 5 (He.ga K "row_copy") ["value"] (spRow 3)) : OkF P w K mg base 6 (He.ma K (He.ga K "Unlike") "heard") ["self"] (spGet (He.ga K "Unlike") "own_heard") := by
  obtain ⟨fd, F⟩ := F
  obtain ⟨fdR, GR, bR⟩ := GR
  refine ⟨fd, F.ok sc_Unlike_heard (fun vs H Q E h => ?_) (fun cdv A outer s H vs Q E hr h => ?_), F.bindsN fun _ _ _ _ _ _ us hl => match us, hl with | [_], _ => rfl⟩
  · obtain ⟨a, dx, fs, v, ds, rfl, _⟩ := h
    rfl
  · obtain ⟨a, dx, fs, v, ds, rfl, ha, hf, hv, Qk⟩ := h
    refine ⟨_, PSs.nox (pss_one (ps_ret (pe_call GR hr rfl mr kr bR .nil pass0 (pa_cons (pe_fld (pv 0) rfl) pa_nil)))), ?_⟩
    exact ⟨_, rfl, a, _, dx, fs, v, rfl, ha, cl, na, hf, v, ds, rfl, hv, Qk⟩
theorem sc_Least_foes : FnScope ["self"] ["self"] (defScope s_Least_foes) := ⟨rfl, rfl, rfl, by decide +kernel, rfl, by decide +kernel, by decide +kernel⟩
theorem ok_Least_foes (F : FnP K "foes" "Least.foes" s_Least_foes (He.ma K (He.ga K "Least") "foes")) (cl : Cls K (He.ga K "Least")) (na : NoAttr K (He.ga K "Least") "own_foes") (mr : mg "row_copy" = some (.ref (He.ga K "row_copy"))) (kr : PySem.W.keepIn K (.ref (He.ga K "row_copy")) = true)
    (GR : OkF P w K mg base 5 (He.ga K "row_copy") ["value"] (spRow 3)) : OkF P w K mg base 6 (He.ma K (He.ga K "Least") "foes") ["self"] (spGet (He.ga K "Least") "own_foes") := by
  obtain ⟨fd, F⟩ := F
  obtain ⟨fdR, GR, bR⟩ := GR
  refine ⟨fd, F.ok sc_Least_foes (fun vs H Q E h => ?_) (fun cdv A outer s H vs Q E hr h => ?_), F.bindsN fun _ _ _ _ _ _ us hl => match us, hl with | [_], _ => rfl⟩
  · obtain ⟨a, dx, fs, v, ds, rfl, _⟩ := h
    rfl
  · obtain ⟨a, dx, fs, v, ds, rfl, ha, hf, hv, Qk⟩ := h
    refine ⟨_, PSs.nox (pss_one (ps_ret (pe_call GR hr rfl mr kr bR .nil pass0 (pa_cons (pe_fld (pv 0) rfl) pa_nil)))), ?_⟩
    exact ⟨_, rfl, a, _, dx, fs, v, rfl, ha, cl, na, hf, v, ds, rfl, hv, Qk⟩
def sp_Safe (K : PySem.W.Frag) : Sp := fun vs H Q _ => ∃ a dx x_table ds_table, vs = [.ref a, x_table] ∧ H a = some (.ins (He.ga K "Safe") dx []) ∧ D4 Z H x_table ds_table ∧
  ∀ H' v_table , (∀ b o, b ≠ a → H b = some o → H' b = some o) → H' a = some (.ins (He.ga K "Safe") dx (putF "own_table" (v_table) ([]))) → D4 H H' v_table ds_table → Q .non H'
theorem sc_Safe : FnScope ["self", "table"] ["self", "table"] (defScope s_Safe_init) := ⟨rfl, rfl, rfl, by decide +kernel, rfl, by decide +kernel, by decide +kernel⟩
theorem ok_Safe (F : FnP K "__init__" "Safe.__init__" s_Safe_init (He.ma K (He.ga K "Safe") "__init__")) (cl : Cls K (He.ga K "Safe")) (na0 : NoAttr K (He.ga K "Safe") "own_table") (mr : mg "row_copy" = some (.ref (He.ga K "row_copy"))) (kr : PySem.W.keepIn K (.ref (He.ga K "row_copy")) = true)
    (GR : OkF P w K mg base 5 (He.ga K "row_copy") ["value"] (spRow 3)) : OkF P w K mg base 6 (He.ma K (He.ga K "Safe") "__init__") ["self", "table"] (sp_Safe K) := by
  obtain ⟨fd, F⟩ := F
  obtain ⟨fdR, GR, bR⟩ := GR
  refine ⟨fd, F.ok sc_Safe (fun vs H Q E h => ?_) (fun cdv A outer s H vs Q E hr h => ?_), F.bindsN fun _ _ _ _ _ _ us hl => match us, hl with | [_, _], _ => rfl⟩
  · obtain ⟨a, dx, x_table, ds_table, rfl, _⟩ := h
    rfl
  · obtain ⟨a, dx, x_table, ds_table, rfl, ha, h_table, Qk⟩ := h
    refine ⟨_, PSs.nox (pss_one (ps_fld (pv 0) (pe_call GR hr rfl mr kr bR .nil pass0 (pa_cons (pv 1) pa_nil)) rfl)), ?_⟩
    have I0 := Ini.refl ha
    refine ⟨_, rfl, _, _, rfl, I0.data h_table, fun v_table G0 s0 q_table => ⟨_, rfl, a, _, dx, _, rfl, s0 _ _ I0.ins, cl, na0, (by show 0 < 1000; decide), ?_⟩⟩
    have I1 := I0.step (gs := putF "own_table" (v_table) ([])) s0
    have q_table := I0.new (gs := putF "own_table" (v_table) ([])) q_table
    exact Qk _ v_table  I1.keep I1.ins  q_table
def sp_Harmed (K : PySem.W.Frag) : Sp := fun vs H Q _ => ∃ a dx x_events ds_events, vs = [.ref a, x_events] ∧ H a = some (.ins (He.ga K "Harmed") dx []) ∧ D4 Z H x_events ds_events ∧
  ∀ H' v_events , (∀ b o, b ≠ a → H b = some o → H' b = some o) → H' a = some (.ins (He.ga K "Harmed") dx (putF "own_events" (v_events) ([]))) → D4 H H' v_events ds_events → Q .non H'
theorem sc_Harmed : FnScope ["self", "events"] ["self", "events"] (defScope s_Harmed_init) := ⟨rfl, rfl, rfl, by decide +kernel, rfl, by decide +kernel, by decide +kernel⟩
theorem ok_Harmed (F : FnP K "__init__" "Harmed.__init__" s_Harmed_init (He.ma K (He.ga K "Harmed") "__init__")) (cl : Cls K (He.ga K "Harmed")) (na0 : NoAttr K (He.ga K "Harmed") "own_events") (mr : mg "row_copy" = some (.ref (He.ga K "row_copy"))) (kr : PySem.W.keepIn K (.ref (He.ga K "row_copy")) = true)
    (GR : OkF P w K mg base 5 (He.ga K "row_copy") ["value"] (spRow 3)) : OkF P w K mg base 6 (He.ma K (He.ga K "Harmed") "__init__") ["self", "events"] (sp_Harmed K) := by
  obtain ⟨fd, F⟩ := F
  obtain ⟨fdR, GR, bR⟩ := GR
  refine ⟨fd, F.ok sc_Harmed (fun vs H Q E h => ?_) (fun cdv A outer s H vs Q E hr h => ?_), F.bindsN fun _ _ _ _ _ _ us hl => match us, hl with | [_, _], _ => rfl⟩
  · obtain ⟨a, dx, x_events, ds_events, rfl, _⟩ := h
    rfl
  · obtain ⟨a, dx, x_events, ds_events, rfl, ha, h_events, Qk⟩ := h
    refine ⟨_, PSs.nox (pss_one (ps_fld (pv 0) (pe_call GR hr rfl mr kr bR .nil pass0 (pa_cons (pv 1) pa_nil)) rfl)), ?_⟩
    have I0 := Ini.refl ha
    refine ⟨_, rfl, _, _, rfl, I0.data h_events, fun v_events G0 s0 q_events => ⟨_, rfl, a, _, dx, _, rfl, s0 _ _ I0.ins, cl, na0, (by show 0 < 1000; decide), ?_⟩⟩
    have I1 := I0.step (gs := putF "own_events" (v_events) ([])) s0
    have q_events := I0.new (gs := putF "own_events" (v_events) ([])) q_events
    exact Qk _ v_events  I1.keep I1.ins  q_events
def sp_Bounded (K : PySem.W.Frag) : Sp := fun vs H Q _ => ∃ a dx x_most x_events x_standings x_heights ds_events ds_standings ds_heights, vs = [.ref a, x_most, x_events, x_standings, x_heights] ∧ H a = some (.ins (He.ga K "Bounded") dx []) ∧ D4 Z H x_events ds_events ∧ D4 Z H x_standings ds_standings ∧ D4 Z H x_heights ds_heights ∧
  ∀ H' v_events v_standings v_heights , (∀ b o, b ≠ a → H b = some o → H' b = some o) → H' a = some (.ins (He.ga K "Bounded") dx (putF "own_heights" (v_heights) (putF "own_standings" (v_standings) (putF "own_events" (v_events) (putF "own_most" (x_most) ([])))))) → D4 H H' v_events ds_events → D4 H H' v_standings ds_standings → D4 H H' v_heights ds_heights → Q .non H'
theorem sc_Bounded : FnScope ["self", "most", "events", "standings", "heights"] ["self", "most", "events", "standings", "heights"] (defScope s_Bounded_init) := ⟨rfl, rfl, rfl, by decide +kernel, rfl, by decide +kernel, by decide +kernel⟩
theorem ok_Bounded (F : FnP K "__init__" "Bounded.__init__" s_Bounded_init (He.ma K (He.ga K "Bounded") "__init__")) (cl : Cls K (He.ga K "Bounded")) (na0 : NoAttr K (He.ga K "Bounded") "own_most") (na1 : NoAttr K (He.ga K "Bounded") "own_events") (na2 : NoAttr K (He.ga K "Bounded") "own_standings") (na3 : NoAttr K (He.ga K "Bounded") "own_heights") (mr : mg "row_copy" = some (.ref (He.ga K "row_copy"))) (kr : PySem.W.keepIn K (.ref (He.ga K "row_copy")) = true)
    (GR : OkF P w K mg base 5 (He.ga K "row_copy") ["value"] (spRow 3)) : OkF P w K mg base 6 (He.ma K (He.ga K "Bounded") "__init__") ["self", "most", "events", "standings", "heights"] (sp_Bounded K) := by
  obtain ⟨fd, F⟩ := F
  obtain ⟨fdR, GR, bR⟩ := GR
  refine ⟨fd, F.ok sc_Bounded (fun vs H Q E h => ?_) (fun cdv A outer s H vs Q E hr h => ?_), F.bindsN fun _ _ _ _ _ _ us hl => match us, hl with | [_, _, _, _, _], _ => rfl⟩
  · obtain ⟨a, dx, x_most, x_events, x_standings, x_heights, ds_events, ds_standings, ds_heights, rfl, _⟩ := h
    rfl
  · obtain ⟨a, dx, x_most, x_events, x_standings, x_heights, ds_events, ds_standings, ds_heights, rfl, ha, h_events, h_standings, h_heights, Qk⟩ := h
    refine ⟨_, PSs.nox (pss_cons (ps_fld (pv 0) (pv 1) rfl) (pss_cons (ps_fld (pv 0) (pe_call GR hr rfl mr kr bR .nil pass0 (pa_cons (pv 2) pa_nil)) rfl) (pss_cons (ps_fld (pv 0) (pe_call GR hr rfl mr kr bR .nil pass0 (pa_cons (pv 3) pa_nil)) rfl) (pss_one (ps_fld (pv 0) (pe_call GR hr rfl mr kr bR .nil pass0 (pa_cons (pv 4) pa_nil)) rfl))))), ?_⟩
    have I0 := Ini.refl ha
    refine ⟨_, rfl, _, rfl, a, _, dx, _, rfl, I0.ins, cl, na0, (by show 0 < 1000; decide), ?_⟩
    have I1 := I0.step (gs := putF "own_most" (x_most) ([])) (Same.refl _)
    refine ⟨_, rfl, _, _, rfl, I1.data h_events, fun v_events G1 s1 q_events => ⟨_, rfl, a, _, dx, _, rfl, s1 _ _ I1.ins, cl, na1, (by show 1 < 1000; decide), ?_⟩⟩
    have I2 := I1.step (gs := putF "own_events" (v_events) (putF "own_most" (x_most) ([]))) s1
    have q_events := I1.new (gs := putF "own_events" (v_events) (putF "own_most" (x_most) ([]))) q_events
    refine ⟨_, rfl, _, _, rfl, I2.data h_standings, fun v_standings G2 s2 q_standings => ⟨_, rfl, a, _, dx, _, rfl, s2 _ _ I2.ins, cl, na2, (by show 2 < 1000; decide), ?_⟩⟩
    have I3 := I2.step (gs := putF "own_standings" (v_standings) (putF "own_events" (v_events) (putF "own_most" (x_most) ([])))) s2
    have q_events := I2.more (gs := putF "own_standings" (v_standings) (putF "own_events" (v_events) (putF "own_most" (x_most) ([])))) s2 q_events
    have q_standings := I2.new (gs := putF "own_standings" (v_standings) (putF "own_events" (v_events) (putF "own_most" (x_most) ([])))) q_standings
    refine ⟨_, rfl, _, _, rfl, I3.data h_heights, fun v_heights G3 s3 q_heights => ⟨_, rfl, a, _, dx, _, rfl, s3 _ _ I3.ins, cl, na3, (by show 3 < 1000; decide), ?_⟩⟩
    have I4 := I3.step (gs := putF "own_heights" (v_heights) (putF "own_standings" (v_standings) (putF "own_events" (v_events) (putF "own_most" (x_most) ([]))))) s3
    have q_events := I3.more (gs := putF "own_heights" (v_heights) (putF "own_standings" (v_standings) (putF "own_events" (v_events) (putF "own_most" (x_most) ([]))))) s3 q_events
    have q_standings := I3.more (gs := putF "own_heights" (v_heights) (putF "own_standings" (v_standings) (putF "own_events" (v_events) (putF "own_most" (x_most) ([]))))) s3 q_standings
    have q_heights := I3.new (gs := putF "own_heights" (v_heights) (putF "own_standings" (v_standings) (putF "own_events" (v_events) (putF "own_most" (x_most) ([]))))) q_heights
    exact Qk _ v_events v_standings v_heights  I4.keep I4.ins  q_events q_standings q_heights
def sp_Endless (K : PySem.W.Frag) : Sp := fun vs H Q _ => ∃ a dx x_lead x_ring x_tail ds_lead ds_ring ds_tail, vs = [.ref a, x_lead, x_ring, x_tail] ∧ H a = some (.ins (He.ga K "Endless") dx []) ∧ D4 Z H x_lead ds_lead ∧ D4 Z H x_ring ds_ring ∧ D4 Z H x_tail ds_tail ∧
  ∀ H' v_lead v_ring v_tail t, (∀ b o, b ≠ a → H b = some o → H' b = some o) → H' a = some (.ins (He.ga K "Endless") dx (putF "own_parts" (.ref t) ([]))) → H t = none → H' t = some (.tup [v_lead, v_ring, v_tail]) → D4 H H' v_lead ds_lead → D4 H H' v_ring ds_ring → D4 H H' v_tail ds_tail → Q .non H'
theorem sc_Endless : FnScope ["self", "lead", "ring", "tail"] ["self", "lead", "ring", "tail"] (defScope s_Endless_init) := ⟨rfl, rfl, rfl, by decide +kernel, rfl, by decide +kernel, by decide +kernel⟩
theorem ok_Endless (F : FnP K "__init__" "Endless.__init__" s_Endless_init (He.ma K (He.ga K "Endless") "__init__")) (cl : Cls K (He.ga K "Endless")) (na0 : NoAttr K (He.ga K "Endless") "own_parts") (mr : mg "row_copy" = some (.ref (He.ga K "row_copy"))) (kr : PySem.W.keepIn K (.ref (He.ga K "row_copy")) = true)
    (GR : OkF P w K mg base 5 (He.ga K "row_copy") ["value"] (spRow 3)) : OkF P w K mg base 6 (He.ma K (He.ga K "Endless") "__init__") ["self", "lead", "ring", "tail"] (sp_Endless K) := by
  obtain ⟨fd, F⟩ := F
  obtain ⟨fdR, GR, bR⟩ := GR
  refine ⟨fd, F.ok sc_Endless (fun vs H Q E h => ?_) (fun cdv A outer s H vs Q E hr h => ?_), F.bindsN fun _ _ _ _ _ _ us hl => match us, hl with | [_, _, _, _], _ => rfl⟩
  · obtain ⟨a, dx, x_lead, x_ring, x_tail, ds_lead, ds_ring, ds_tail, rfl, _⟩ := h
    rfl
  · obtain ⟨a, dx, x_lead, x_ring, x_tail, ds_lead, ds_ring, ds_tail, rfl, ha, h_lead, h_ring, h_tail, Qk⟩ := h
    refine ⟨_, PSs.nox (pss_one (ps_fld (pv 0) (pe_tup (pa_cons (pe_call GR hr rfl mr kr bR .nil pass0 (pa_cons (pv 1) pa_nil)) (pa_cons (pe_call GR hr rfl mr kr bR .nil pass0 (pa_cons (pv 2) pa_nil)) (pa_cons (pe_call GR hr rfl mr kr bR .nil pass0 (pa_cons (pv 3) pa_nil)) pa_nil)))) rfl)), ?_⟩
    have I0 := Ini.refl ha
    refine ⟨_, rfl, _, _, rfl, (h_lead.same (Same.refl H)), fun v_lead G0 s0 q_lead => ?_⟩
    have S1 : Same H G0 := s0
    refine ⟨_, rfl, _, _, rfl, (h_ring.same S1), fun v_ring G1 s1 q_ring => ?_⟩
    have S2 : Same H G1 := S1.trans s1
    have q_lead := q_lead.same s1
    have q_ring : D4 H G1 v_ring ds_ring := New.mono (fun _ f => S1.free f) (fun _ _ _ e => e) _ _ _ q_ring
    refine ⟨_, rfl, _, _, rfl, (h_tail.same S2), fun v_tail G2 s2 q_tail => ?_⟩
    have S3 : Same H G2 := S2.trans s2
    have q_lead := q_lead.same s2
    have q_ring := q_ring.same s2
    have q_tail : D4 H G2 v_tail ds_tail := New.mono (fun _ f => S2.free f) (fun _ _ _ e => e) _ _ _ q_tail
    refine ⟨(by show 3 ≤ sizeLine; decide), fun t ht => ?_⟩
    have st : Same G2 (upd G2 t (.tup [v_lead, v_ring, v_tail])) := same_new ht
    refine ⟨_, rfl, a, _, dx, _, rfl, st _ _ (S3 _ _ ha), cl, na0, (by show 0 < 1000; decide), ?_⟩
    have I1 := I0.step (gs := putF "own_parts" (V.ref t) ([])) (S3.trans st)
    have nta : t ≠ a := fun z => by rw [z, S3 _ _ ha] at ht; cases ht
    have q_lead : D4 H (upd (upd G2 t (.tup [v_lead, v_ring, v_tail])) a (.ins (He.ga K "Endless") dx (putF "own_parts" (V.ref t) ([])))) v_lead ds_lead := New.monoS (fun _ f => f) (fun b xs f h => by rw [upd_ne (fun z => by rw [z, ha] at f; cases f)]; exact st _ _ h) (fun b xs f h => by rw [upd_ne (fun z => by rw [z, ha] at f; cases f)]; exact st _ _ h) _ _ _ q_lead
    have q_ring : D4 H (upd (upd G2 t (.tup [v_lead, v_ring, v_tail])) a (.ins (He.ga K "Endless") dx (putF "own_parts" (V.ref t) ([])))) v_ring ds_ring := New.monoS (fun _ f => f) (fun b xs f h => by rw [upd_ne (fun z => by rw [z, ha] at f; cases f)]; exact st _ _ h) (fun b xs f h => by rw [upd_ne (fun z => by rw [z, ha] at f; cases f)]; exact st _ _ h) _ _ _ q_ring
    have q_tail : D4 H (upd (upd G2 t (.tup [v_lead, v_ring, v_tail])) a (.ins (He.ga K "Endless") dx (putF "own_parts" (V.ref t) ([])))) v_tail ds_tail := New.monoS (fun _ f => f) (fun b xs f h => by rw [upd_ne (fun z => by rw [z, ha] at f; cases f)]; exact st _ _ h) (fun b xs f h => by rw [upd_ne (fun z => by rw [z, ha] at f; cases f)]; exact st _ _ h) _ _ _ q_tail
    exact Qk _ v_lead v_ring v_tail t I1.keep I1.ins (S3.free ht) (by rw [upd_ne nta, upd_same]) q_lead q_ring q_tail
def sp_Even (K : PySem.W.Frag) : Sp := fun vs H Q _ => ∃ a dx x_most x_events ds_events, vs = [.ref a, x_most, x_events] ∧ H a = some (.ins (He.ga K "Even") dx []) ∧ D4 Z H x_events ds_events ∧
  ∀ H' v_events , (∀ b o, b ≠ a → H b = some o → H' b = some o) → H' a = some (.ins (He.ga K "Even") dx (putF "own_events" (v_events) (putF "own_most" (x_most) ([])))) → D4 H H' v_events ds_events → Q .non H'
theorem sc_Even : FnScope ["self", "most", "events"] ["self", "most", "events"] (defScope s_Even_init) := ⟨rfl, rfl, rfl, by decide +kernel, rfl, by decide +kernel, by decide +kernel⟩
theorem ok_Even (F : FnP K "__init__" "Even.__init__" s_Even_init (He.ma K (He.ga K "Even") "__init__")) (cl : Cls K (He.ga K "Even")) (na0 : NoAttr K (He.ga K "Even") "own_most") (na1 : NoAttr K (He.ga K "Even") "own_events") (mr : mg "row_copy" = some (.ref (He.ga K "row_copy"))) (kr : PySem.W.keepIn K (.ref (He.ga K "row_copy")) = true)
    (GR : OkF P w K mg base 5 (He.ga K "row_copy") ["value"] (spRow 3)) : OkF P w K mg base 6 (He.ma K (He.ga K "Even") "__init__") ["self", "most", "events"] (sp_Even K) := by
  obtain ⟨fd, F⟩ := F
  obtain ⟨fdR, GR, bR⟩ := GR
  refine ⟨fd, F.ok sc_Even (fun vs H Q E h => ?_) (fun cdv A outer s H vs Q E hr h => ?_), F.bindsN fun _ _ _ _ _ _ us hl => match us, hl with | [_, _, _], _ => rfl⟩
  · obtain ⟨a, dx, x_most, x_events, ds_events, rfl, _⟩ := h
    rfl
  · obtain ⟨a, dx, x_most, x_events, ds_events, rfl, ha, h_events, Qk⟩ := h
    refine ⟨_, PSs.nox (pss_cons (ps_fld (pv 0) (pv 1) rfl) (pss_one (ps_fld (pv 0) (pe_call GR hr rfl mr kr bR .nil pass0 (pa_cons (pv 2) pa_nil)) rfl))), ?_⟩
    have I0 := Ini.refl ha
    refine ⟨_, rfl, _, rfl, a, _, dx, _, rfl, I0.ins, cl, na0, (by show 0 < 1000; decide), ?_⟩
    have I1 := I0.step (gs := putF "own_most" (x_most) ([])) (Same.refl _)
    refine ⟨_, rfl, _, _, rfl, I1.data h_events, fun v_events G1 s1 q_events => ⟨_, rfl, a, _, dx, _, rfl, s1 _ _ I1.ins, cl, na1, (by show 1 < 1000; decide), ?_⟩⟩
    have I2 := I1.step (gs := putF "own_events" (v_events) (putF "own_most" (x_most) ([]))) s1
    have q_events := I1.new (gs := putF "own_events" (v_events) (putF "own_most" (x_most) ([]))) q_events
    exact Qk _ v_events  I2.keep I2.ins  q_events
def sp_Uneven (K : PySem.W.Frag) : Sp := fun vs H Q _ => ∃ a dx x_lead x_ring ds_lead ds_ring, vs = [.ref a, x_lead, x_ring] ∧ H a = some (.ins (He.ga K "Uneven") dx []) ∧ D4 Z H x_lead ds_lead ∧ D4 Z H x_ring ds_ring ∧
  ∀ H' v_lead v_ring t, (∀ b o, b ≠ a → H b = some o → H' b = some o) → H' a = some (.ins (He.ga K "Uneven") dx (putF "own_parts" (.ref t) ([]))) → H t = none → H' t = some (.tup [v_lead, v_ring]) → D4 H H' v_lead ds_lead → D4 H H' v_ring ds_ring → Q .non H'
theorem sc_Uneven : FnScope ["self", "lead", "ring"] ["self", "lead", "ring"] (defScope s_Uneven_init) := ⟨rfl, rfl, rfl, by decide +kernel, rfl, by decide +kernel, by decide +kernel⟩
theorem ok_Uneven (F : FnP K "__init__" "Uneven.__init__" s_Uneven_init (He.ma K (He.ga K "Uneven") "__init__")) (cl : Cls K (He.ga K "Uneven")) (na0 : NoAttr K (He.ga K "Uneven") "own_parts") (mr : mg "row_copy" = some (.ref (He.ga K "row_copy"))) (kr : PySem.W.keepIn K (.ref (He.ga K "row_copy")) = true)
    (GR : OkF P w K mg base 5 (He.ga K "row_copy") ["value"] (spRow 3)) : OkF P w K mg base 6 (He.ma K (He.ga K "Uneven") "__init__") ["self", "lead", "ring"] (sp_Uneven K) := by
  obtain ⟨fd, F⟩ := F
  obtain ⟨fdR, GR, bR⟩ := GR
  refine ⟨fd, F.ok sc_Uneven (fun vs H Q E h => ?_) (fun cdv A outer s H vs Q E hr h => ?_), F.bindsN fun _ _ _ _ _ _ us hl => match us, hl with | [_, _, _], _ => rfl⟩
  · obtain ⟨a, dx, x_lead, x_ring, ds_lead, ds_ring, rfl, _⟩ := h
    rfl
  · obtain ⟨a, dx, x_lead, x_ring, ds_lead, ds_ring, rfl, ha, h_lead, h_ring, Qk⟩ := h
    refine ⟨_, PSs.nox (pss_one (ps_fld (pv 0) (pe_tup (pa_cons (pe_call GR hr rfl mr kr bR .nil pass0 (pa_cons (pv 1) pa_nil)) (pa_cons (pe_call GR hr rfl mr kr bR .nil pass0 (pa_cons (pv 2) pa_nil)) pa_nil))) rfl)), ?_⟩
    have I0 := Ini.refl ha
    refine ⟨_, rfl, _, _, rfl, (h_lead.same (Same.refl H)), fun v_lead G0 s0 q_lead => ?_⟩
    have S1 : Same H G0 := s0
    refine ⟨_, rfl, _, _, rfl, (h_ring.same S1), fun v_ring G1 s1 q_ring => ?_⟩
    have S2 : Same H G1 := S1.trans s1
    have q_lead := q_lead.same s1
    have q_ring : D4 H G1 v_ring ds_ring := New.mono (fun _ f => S1.free f) (fun _ _ _ e => e) _ _ _ q_ring
    refine ⟨(by show 2 ≤ sizeLine; decide), fun t ht => ?_⟩
    have st : Same G1 (upd G1 t (.tup [v_lead, v_ring])) := same_new ht
    refine ⟨_, rfl, a, _, dx, _, rfl, st _ _ (S2 _ _ ha), cl, na0, (by show 0 < 1000; decide), ?_⟩
    have I1 := I0.step (gs := putF "own_parts" (V.ref t) ([])) (S2.trans st)
    have nta : t ≠ a := fun z => by rw [z, S2 _ _ ha] at ht; cases ht
    have q_lead : D4 H (upd (upd G1 t (.tup [v_lead, v_ring])) a (.ins (He.ga K "Uneven") dx (putF "own_parts" (V.ref t) ([])))) v_lead ds_lead := New.monoS (fun _ f => f) (fun b xs f h => by rw [upd_ne (fun z => by rw [z, ha] at f; cases f)]; exact st _ _ h) (fun b xs f h => by rw [upd_ne (fun z => by rw [z, ha] at f; cases f)]; exact st _ _ h) _ _ _ q_lead
    have q_ring : D4 H (upd (upd G1 t (.tup [v_lead, v_ring])) a (.ins (He.ga K "Uneven") dx (putF "own_parts" (V.ref t) ([])))) v_ring ds_ring := New.monoS (fun _ f => f) (fun b xs f h => by rw [upd_ne (fun z => by rw [z, ha] at f; cases f)]; exact st _ _ h) (fun b xs f h => by rw [upd_ne (fun z => by rw [z, ha] at f; cases f)]; exact st _ _ h) _ _ _ q_ring
    exact Qk _ v_lead v_ring t I1.keep I1.ins (S2.free ht) (by rw [upd_ne nta, upd_same]) q_lead q_ring
def sp_Alike (K : PySem.W.Frag) : Sp := fun vs H Q _ => ∃ a dx x_pairs ds_pairs, vs = [.ref a, x_pairs] ∧ H a = some (.ins (He.ga K "Alike") dx []) ∧ D4 Z H x_pairs ds_pairs ∧
  ∀ H' v_pairs , (∀ b o, b ≠ a → H b = some o → H' b = some o) → H' a = some (.ins (He.ga K "Alike") dx (putF "own_pairs" (v_pairs) ([]))) → D4 H H' v_pairs ds_pairs → Q .non H'
theorem sc_Alike : FnScope ["self", "pairs"] ["self", "pairs"] (defScope s_Alike_init) := ⟨rfl, rfl, rfl, by decide +kernel, rfl, by decide +kernel, by decide +kernel⟩
theorem ok_Alike (F : FnP K "__init__" "Alike.__init__" s_Alike_init (He.ma K (He.ga K "Alike") "__init__")) (cl : Cls K (He.ga K "Alike")) (na0 : NoAttr K (He.ga K "Alike") "own_pairs") (mr : mg "row_copy" = some (.ref (He.ga K "row_copy"))) (kr : PySem.W.keepIn K (.ref (He.ga K "row_copy")) = true)
    (GR : OkF P w K mg base 5 (He.ga K "row_copy") ["value"] (spRow 3)) : OkF P w K mg base 6 (He.ma K (He.ga K "Alike") "__init__") ["self", "pairs"] (sp_Alike K) := by
  obtain ⟨fd, F⟩ := F
  obtain ⟨fdR, GR, bR⟩ := GR
  refine ⟨fd, F.ok sc_Alike (fun vs H Q E h => ?_) (fun cdv A outer s H vs Q E hr h => ?_), F.bindsN fun _ _ _ _ _ _ us hl => match us, hl with | [_, _], _ => rfl⟩
  · obtain ⟨a, dx, x_pairs, ds_pairs, rfl, _⟩ := h
    rfl
  · obtain ⟨a, dx, x_pairs, ds_pairs, rfl, ha, h_pairs, Qk⟩ := h
    refine ⟨_, PSs.nox (pss_one (ps_fld (pv 0) (pe_call GR hr rfl mr kr bR .nil pass0 (pa_cons (pv 1) pa_nil)) rfl)), ?_⟩
    have I0 := Ini.refl ha
    refine ⟨_, rfl, _, _, rfl, I0.data h_pairs, fun v_pairs G0 s0 q_pairs => ⟨_, rfl, a, _, dx, _, rfl, s0 _ _ I0.ins, cl, na0, (by show 0 < 1000; decide), ?_⟩⟩
    have I1 := I0.step (gs := putF "own_pairs" (v_pairs) ([])) s0
    have q_pairs := I0.new (gs := putF "own_pairs" (v_pairs) ([])) q_pairs
    exact Qk _ v_pairs  I1.keep I1.ins  q_pairs
def sp_Unlike (K : PySem.W.Frag) : Sp := fun vs H Q _ => ∃ a dx x_heard ds_heard, vs = [.ref a, x_heard] ∧ H a = some (.ins (He.ga K "Unlike") dx []) ∧ D4 Z H x_heard ds_heard ∧
  ∀ H' v_heard , (∀ b o, b ≠ a → H b = some o → H' b = some o) → H' a = some (.ins (He.ga K "Unlike") dx (putF "own_heard" (v_heard) ([]))) → D4 H H' v_heard ds_heard → Q .non H'
theorem sc_Unlike : FnScope ["self", "heard"] ["self", "heard"] (defScope s_Unlike_init) := ⟨rfl, rfl, rfl, by decide +kernel, rfl, by decide +kernel, by decide +kernel⟩
theorem ok_Unlike (F : FnP K "__init__" "Unlike.__init__" s_Unlike_init (He.ma K (He.ga K "Unlike") "__init__")) (cl : Cls K (He.ga K "Unlike")) (na0 : NoAttr K (He.ga K "Unlike") "own_heard") (mr : mg "row_copy" = some (.ref (He.ga K "row_copy"))) (kr : PySem.W.keepIn K (.ref (He.ga K "row_copy")) = true)
    (GR : OkF P w K mg base 5 (He.ga K "row_copy") ["value"] (spRow 3)) : OkF P w K mg base 6 (He.ma K (He.ga K "Unlike") "__init__") ["self", "heard"] (sp_Unlike K) := by
  obtain ⟨fd, F⟩ := F
  obtain ⟨fdR, GR, bR⟩ := GR
  refine ⟨fd, F.ok sc_Unlike (fun vs H Q E h => ?_) (fun cdv A outer s H vs Q E hr h => ?_), F.bindsN fun _ _ _ _ _ _ us hl => match us, hl with | [_, _], _ => rfl⟩
  · obtain ⟨a, dx, x_heard, ds_heard, rfl, _⟩ := h
    rfl
  · obtain ⟨a, dx, x_heard, ds_heard, rfl, ha, h_heard, Qk⟩ := h
    refine ⟨_, PSs.nox (pss_one (ps_fld (pv 0) (pe_call GR hr rfl mr kr bR .nil pass0 (pa_cons (pv 1) pa_nil)) rfl)), ?_⟩
    have I0 := Ini.refl ha
    refine ⟨_, rfl, _, _, rfl, I0.data h_heard, fun v_heard G0 s0 q_heard => ⟨_, rfl, a, _, dx, _, rfl, s0 _ _ I0.ins, cl, na0, (by show 0 < 1000; decide), ?_⟩⟩
    have I1 := I0.step (gs := putF "own_heard" (v_heard) ([])) s0
    have q_heard := I0.new (gs := putF "own_heard" (v_heard) ([])) q_heard
    exact Qk _ v_heard  I1.keep I1.ins  q_heard
def sp_Least (K : PySem.W.Frag) : Sp := fun vs H Q _ => ∃ a dx x_size x_foes ds_foes, vs = [.ref a, x_size, x_foes] ∧ H a = some (.ins (He.ga K "Least") dx []) ∧ D4 Z H x_foes ds_foes ∧
  ∀ H' v_foes , (∀ b o, b ≠ a → H b = some o → H' b = some o) → H' a = some (.ins (He.ga K "Least") dx (putF "own_foes" (v_foes) (putF "own_size" (x_size) ([])))) → D4 H H' v_foes ds_foes → Q .non H'
theorem sc_Least : FnScope ["self", "size", "foes"] ["self", "size", "foes"] (defScope s_Least_init) := ⟨rfl, rfl, rfl, by decide +kernel, rfl, by decide +kernel, by decide +kernel⟩
theorem ok_Least (F : FnP K "__init__" "Least.__init__" s_Least_init (He.ma K (He.ga K "Least") "__init__")) (cl : Cls K (He.ga K "Least")) (na0 : NoAttr K (He.ga K "Least") "own_size") (na1 : NoAttr K (He.ga K "Least") "own_foes") (mr : mg "row_copy" = some (.ref (He.ga K "row_copy"))) (kr : PySem.W.keepIn K (.ref (He.ga K "row_copy")) = true)
    (GR : OkF P w K mg base 5 (He.ga K "row_copy") ["value"] (spRow 3)) : OkF P w K mg base 6 (He.ma K (He.ga K "Least") "__init__") ["self", "size", "foes"] (sp_Least K) := by
  obtain ⟨fd, F⟩ := F
  obtain ⟨fdR, GR, bR⟩ := GR
  refine ⟨fd, F.ok sc_Least (fun vs H Q E h => ?_) (fun cdv A outer s H vs Q E hr h => ?_), F.bindsN fun _ _ _ _ _ _ us hl => match us, hl with | [_, _, _], _ => rfl⟩
  · obtain ⟨a, dx, x_size, x_foes, ds_foes, rfl, _⟩ := h
    rfl
  · obtain ⟨a, dx, x_size, x_foes, ds_foes, rfl, ha, h_foes, Qk⟩ := h
    refine ⟨_, PSs.nox (pss_cons (ps_fld (pv 0) (pv 1) rfl) (pss_one (ps_fld (pv 0) (pe_call GR hr rfl mr kr bR .nil pass0 (pa_cons (pv 2) pa_nil)) rfl))), ?_⟩
    have I0 := Ini.refl ha
    refine ⟨_, rfl, _, rfl, a, _, dx, _, rfl, I0.ins, cl, na0, (by show 0 < 1000; decide), ?_⟩
    have I1 := I0.step (gs := putF "own_size" (x_size) ([])) (Same.refl _)
    refine ⟨_, rfl, _, _, rfl, I1.data h_foes, fun v_foes G1 s1 q_foes => ⟨_, rfl, a, _, dx, _, rfl, s1 _ _ I1.ins, cl, na1, (by show 1 < 1000; decide), ?_⟩⟩
    have I2 := I1.step (gs := putF "own_foes" (v_foes) (putF "own_size" (x_size) ([]))) s1
    have q_foes := I1.new (gs := putF "own_foes" (v_foes) (putF "own_size" (x_size) ([]))) q_foes
    exact Qk _ v_foes  I2.keep I2.ins  q_foes
end
end K75

set_option maxHeartbeats 8000000
namespace K75
open PySem PySem.Spec PyProof.Rows L2
section
variable {P : Program} {w : World} {K : PySem.W.Frag} {mg : Str → Option Value} {base : Heap}
theorem New.up {H0 H : Hp} : ∀ {n : Nat} {v : V} {d : PyData}, New H0 H n v d → New H0 H (n + 1) v d
  | 0, _, _, q => .inl q
  | n + 1, _, _, .inl q => .inl q
  | n + 1, _, _, .inr q => .inr (q.mono (fun _ _ x => New.up x) (fun _ h => h) fun _ _ _ h => h)
theorem New.low {B H1 H2 : Hp} {n : Nat} {v : V} {d : PyData} (s : Same B H1) (q : New H1 H2 n v d) : New B H2 n v d := New.mono (fun _ f => s.free f) (fun _ _ _ e => e) _ _ _ q
/-! ### a reading that lays new data -/
def EvN (te : TE) (σ : L2.St) (n : Nat) (d : PyData) : Prop := ∀ H (Q : VK), (∀ v H2, Same H H2 → New H H2 n v d → Q v H2) → te σ H Q
def EvNs (ta : TA) (σ : L2.St) (n : Nat) (ds : List PyData) : Prop := ∀ H (Q : List V → Hp → Prop), (∀ vs H2, Same H H2 → Paired (New H H2 n) vs ds → Q vs H2) → ta σ H Q
theorem EvN.up {te : TE} {σ : L2.St} {n : Nat} {d : PyData} (h : EvN te σ n d) : EvN te σ (n + 1) d := fun H Q q => h H Q fun v H2 s x => q v H2 s x.up
theorem evn_nil {σ : L2.St} {n : Nat} : EvNs tNil σ n [] := fun H Q q => q [] H (Same.refl H) .nil
theorem evn_cons {te : TE} {ta : TA} {σ : L2.St} {n : Nat} {d : PyData} {ds : List PyData} (h : EvN te σ n d) (hs : EvNs ta σ n ds) : EvNs (tCons te ta) σ n (d :: ds) := fun H Q q =>
  h H _ fun v H2 s x => hs H2 _ fun vs H3 s2 xs => q (v :: vs) H3 (s.trans s2) (.cons (x.same s2) (Paired.map2 xs fun _ _ y => New.low s y))
theorem evn_c {σ : L2.St} {n : Nat} {v : V} {d : PyData} (h : Atom v d) : EvN (tC v) σ n d := fun H Q q => q v H (Same.refl H) (New.atom h)
theorem evn_var {σ : L2.St} {n i : Nat} {v : V} {d : PyData} (e : σ[i]? = some (some v)) (h : Atom v d) : EvN (tVar i) σ n d := fun H Q q => ⟨v, e, q v H (Same.refl H) (New.atom h)⟩
theorem evn_lst {ta : TA} {σ : L2.St} {n : Nat} {ds : List PyData} (h : EvNs ta σ n ds) (hl : ds.length ≤ 1000) : EvN (tLst ta) σ (n + 1) (.list ds) := fun H Q q =>
  h H _ fun vs H2 s xs => by
    have e := Paired.length xs
    refine ⟨by rw [e]; exact Nat.le_trans hl (by decide), fun p hp => q _ _ (s.trans (same_new hp)) (.inr ⟨p, vs, rfl, s.free hp, upd_same, by rw [e]; exact hl, Paired.map2 xs fun _ _ y => y.same (same_new hp)⟩)⟩
theorem evn_tup {ta : TA} {σ : L2.St} {n : Nat} {ds : List PyData} (h : EvNs ta σ n ds) (hl : ds.length ≤ 1000) : EvN (tTup ta) σ (n + 1) (.tuple ds) := fun H Q q =>
  h H _ fun vs H2 s xs => by
    have e := Paired.length xs
    refine ⟨by rw [e]; exact Nat.le_trans hl (by decide), fun p hp => q _ _ (s.trans (same_new hp)) (.inr ⟨p, vs, rfl, s.free hp, upd_same, by rw [e]; exact hl, Paired.map2 xs fun _ _ y => y.same (same_new hp)⟩)⟩
/-! ### the rows of the law -/
def dsD (m : Int) : List PyData := [.list [.str "a", .int m], .tuple [.list [.str "b"], .none], .tuple [.tuple [.list [.str "c"]], .list [.list [.int 3]]]]
structure Shape (G H : Hp) (m : Int) (v : V) (p a t1 b t2 t3 c q e : Addr) : Prop where
  ev : v = .ref p
  hp : H p = some (.lst [.ref a, .ref t1, .ref t2])
  ha : H a = some (.lst [.str "a", .int m])
  h1 : H t1 = some (.tup [.ref b, .non])
  hb : H b = some (.lst [.str "b"])
  h2 : H t2 = some (.tup [.ref t3, .ref q])
  h3 : H t3 = some (.tup [.ref c])
  hc : H c = some (.lst [.str "c"])
  hq : H q = some (.lst [.ref e])
  he : H e = some (.lst [.int 3])
  gp : G p = none
  ga : G a = none
  gb : G b = none
  gc : G c = none
  ge : G e = none
  g1 : G t1 = none
  g2 : G t2 = none
  g3 : G t3 = none
  gq : G q = none
theorem box_l {F : V → PyData → Prop} {G H : Hp} {v : V} {ds : List PyData} (q : Box F G H v (.list ds)) : ∃ a xs, v = .ref a ∧ G a = none ∧ H a = some (.lst xs) ∧ xs.length ≤ 1000 ∧ Paired F xs ds := q
theorem box_t {F : V → PyData → Prop} {G H : Hp} {v : V} {ds : List PyData} (q : Box F G H v (.tuple ds)) : ∃ a xs, v = .ref a ∧ G a = none ∧ H a = some (.tup xs) ∧ xs.length ≤ 1000 ∧ Paired F xs ds := q
theorem new_l {G H : Hp} {n : Nat} {v : V} {ds : List PyData} (q : New G H (n + 1) v (.list ds)) : ∃ a xs, v = .ref a ∧ G a = none ∧ H a = some (.lst xs) ∧ Paired (New G H n) xs ds := by
  obtain ⟨a, xs, e, f, g, _, r⟩ := box_l (q.resolve_left fun z => z)
  exact ⟨a, xs, e, f, g, r⟩
theorem new_t {G H : Hp} {n : Nat} {v : V} {ds : List PyData} (q : New G H (n + 1) v (.tuple ds)) : ∃ a xs, v = .ref a ∧ G a = none ∧ H a = some (.tup xs) ∧ Paired (New G H n) xs ds := by
  obtain ⟨a, xs, e, f, g, _, r⟩ := box_t (q.resolve_left fun z => z)
  exact ⟨a, xs, e, f, g, r⟩
theorem new_s {G H : Hp} {v : V} {x : Str} : ∀ {n : Nat}, New G H n v (.str x) → v = .str x
  | 0, q => q
  | _ + 1, q => q.resolve_right fun z => z
theorem new_i {G H : Hp} {v : V} {x : Int} : ∀ {n : Nat}, New G H n v (.int x) → v = .int x
  | 0, q => q
  | _ + 1, q => q.resolve_right fun z => z
theorem new_n {G H : Hp} {v : V} : ∀ {n : Nat}, New G H n v .none → v = .non
  | 0, q => q
  | _ + 1, q => q.resolve_right fun z => z
theorem shape {G H : Hp} {m : Int} {v : V} (q : D4 G H v (dsD m)) : ∃ p a t1 b t2 t3 c q e, Shape G H m v p a t1 b t2 t3 c q e := by
  obtain ⟨p, xs, rfl, gp, hp, r⟩ := new_l q
  rcases r with _ | ⟨r0, _ | ⟨r1, _ | ⟨r2, _ | _⟩⟩⟩
  obtain ⟨a, ys, rfl, ga, ha, r⟩ := new_l r0
  rcases r with _ | ⟨s0, _ | ⟨s1, _ | _⟩⟩
  cases new_s s0
  cases new_i s1
  obtain ⟨t1, ys, rfl, g1, h1, r⟩ := new_t r1
  rcases r with _ | ⟨s0, _ | ⟨s1, _ | _⟩⟩
  cases new_n s1
  obtain ⟨b, ys, rfl, gb, hb, r⟩ := new_l s0
  rcases r with _ | ⟨s0, _ | _⟩
  cases new_s s0
  obtain ⟨t2, ys, rfl, g2, h2, r⟩ := new_t r2
  rcases r with _ | ⟨s0, _ | ⟨s1, _ | _⟩⟩
  obtain ⟨t3, ys, rfl, g3, h3, r⟩ := new_t s0
  rcases r with _ | ⟨s0, _ | _⟩
  obtain ⟨c, ys, rfl, gc, hc, r⟩ := new_l s0
  rcases r with _ | ⟨s0, _ | _⟩
  cases new_s s0
  obtain ⟨q, ys, rfl, gq, hq, r⟩ := new_l s1
  rcases r with _ | ⟨s0, _ | _⟩
  obtain ⟨e, ys, rfl, ge, he, r⟩ := new_l s0
  rcases r with _ | ⟨s0, _ | _⟩
  cases new_i s0
  exact ⟨p, a, t1, b, t2, t3, c, q, e, rfl, hp, ha, h1, hb, h2, h3, hc, hq, he, gp, ga, gb, gc, ge, g1, g2, g3, gq⟩
/-! ### the made papers -/
abbrev Fr (B H H' : Hp) : Prop := ∀ y o, B y = none → H y = some o → H' y = some o
theorem New.fr {B H H' : Hp} {n : Nat} {v : V} {d : PyData} (f : Fr B H H') (q : New B H n v d) : New B H' n v d := New.mono (fun _ e => e) f _ _ _ q
theorem Same.fr {B H H' : Hp} (s : Same H H') : Fr B H H' := fun y o _ e => s y o e
structure Ob (m : Int) (B H : Hp) (C o : Addr) (fl ml : List Str) (np : Nat) : Prop where
  ex : ∃ dx fs, B o = none ∧ H o = some (.ins C dx fs) ∧ (∀ f ∈ fl, ∃ v, fs.lookup f = some v ∧ D4 B H v (dsD m)) ∧ (∀ x ∈ ml, fs.lookup x = none) ∧
    (np = 0 ∨ ∃ t xs, fs.lookup ("own_parts" : Str) = some (V.ref t) ∧ B t = none ∧ H t = some (.tup xs) ∧ xs.length = np ∧ ∀ x ∈ xs, D4 B H x (dsD m))
theorem Ob.fr {m : Int} {B H H' : Hp} {C o : Addr} {fl ml : List Str} {np : Nat} (f : Fr B H H') (q : Ob m B H C o fl ml np) : Ob m B H' C o fl ml np := by
  obtain ⟨dx, fs, b, h, hf, hm, hp⟩ := q.ex
  refine ⟨dx, fs, b, f _ _ b h, fun x hx => ?_, hm, hp.imp id fun ⟨t, xs, e1, e2, e3, e4, e5⟩ => ⟨t, xs, e1, e2, f _ _ e2 e3, e4, fun x hx => (e5 x hx).fr f⟩⟩
  obtain ⟨v, e, n⟩ := hf x hx
  exact ⟨v, e, n.fr f⟩

structure JJ (m : Int) (K : PySem.W.Frag) (B H : Hp) (due : V) (pm o0 o1 o2 o3 o4 o5 o6 o7 o8 : Addr) : Prop where
  due : D4 B H due (dsD m)
  bm : B pm = none
  hm : H pm = some (.lst [.ref o0, .ref o1, .ref o2, .ref o3, .ref o4, .ref o5, .ref o6, .ref o7, .ref o8])
  j0 : Ob m B H (He.ga K "Safe") o0 ["own_table"] ["table"] 0
  j1 : Ob m B H (He.ga K "Harmed") o1 ["own_events"] ["events"] 0
  j2 : Ob m B H (He.ga K "Bounded") o2 ["own_events", "own_standings", "own_heights"] ["events", "standings", "heights"] 0
  j3 : Ob m B H (He.ga K "Endless") o3 [] ["lead", "ring", "tail"] 3
  j4 : Ob m B H (He.ga K "Even") o4 ["own_events"] ["events"] 0
  j5 : Ob m B H (He.ga K "Uneven") o5 [] ["lead", "ring"] 2
  j6 : Ob m B H (He.ga K "Alike") o6 ["own_pairs"] ["pairs"] 0
  j7 : Ob m B H (He.ga K "Unlike") o7 ["own_heard"] ["heard"] 0
  j8 : Ob m B H (He.ga K "Least") o8 ["own_foes"] ["foes"] 0
theorem JJ.fr {m : Int} {B H H' : Hp} {due : V} {pm o0 o1 o2 o3 o4 o5 o6 o7 o8 : Addr} (f : Fr B H H') (j : JJ m K B H due pm o0 o1 o2 o3 o4 o5 o6 o7 o8) : JJ m K B H' due pm o0 o1 o2 o3 o4 o5 o6 o7 o8 :=
  ⟨j.due.fr f, j.bm, f _ _ j.bm j.hm, j.j0.fr f, j.j1.fr f, j.j2.fr f, j.j3.fr f, j.j4.fr f, j.j5.fr f, j.j6.fr f, j.j7.fr f, j.j8.fr f⟩
theorem lk {f g : Str} {v : V} {fs : List (Str × V)} (h : ¬ f = g) : (putF g v fs).lookup f = fs.lookup f := by rw [lookup_putF, if_neg h]
theorem lkh {f : Str} {v : V} {fs : List (Str × V)} : (putF f v fs).lookup f = some v := by rw [lookup_putF, if_pos rfl]
theorem mk_Safe {m : Int} {B H0 H' : Hp} {o dx  : Addr} {v_table : V} (s : Same B H0) (nx : H0 o = none) (ins : H' o = some (.ins (He.ga K "Safe") dx (putF "own_table" (v_table) ([]))))
    (q_table : D4 B H' v_table (dsD m)) : Ob m B H' (He.ga K "Safe") o ["own_table"] ["table"] 0 := by
  refine ⟨dx, _, s.free nx, ins, fun f hf => ?_, fun x hx => ?_, .inl rfl⟩
  · simp only [List.mem_cons, List.not_mem_nil, or_false] at hf
    rcases hf with rfl
    · exact ⟨v_table, by rw [lkh], q_table⟩
  · simp only [List.mem_cons, List.not_mem_nil, or_false] at hx
    rcases hx with rfl
    · rw [lk (by decide +kernel)]; rfl
theorem mk_Harmed {m : Int} {B H0 H' : Hp} {o dx  : Addr} {v_events : V} (s : Same B H0) (nx : H0 o = none) (ins : H' o = some (.ins (He.ga K "Harmed") dx (putF "own_events" (v_events) ([]))))
    (q_events : D4 B H' v_events (dsD m)) : Ob m B H' (He.ga K "Harmed") o ["own_events"] ["events"] 0 := by
  refine ⟨dx, _, s.free nx, ins, fun f hf => ?_, fun x hx => ?_, .inl rfl⟩
  · simp only [List.mem_cons, List.not_mem_nil, or_false] at hf
    rcases hf with rfl
    · exact ⟨v_events, by rw [lkh], q_events⟩
  · simp only [List.mem_cons, List.not_mem_nil, or_false] at hx
    rcases hx with rfl
    · rw [lk (by decide +kernel)]; rfl
theorem mk_Bounded {m : Int} {B H0 H' : Hp} {o dx  : Addr} {x_most v_events v_standings v_heights : V} (s : Same B H0) (nx : H0 o = none) (ins : H' o = some (.ins (He.ga K "Bounded") dx (putF "own_heights" (v_heights) (putF "own_standings" (v_standings) (putF "own_events" (v_events) (putF "own_most" (x_most) ([])))))))
    (q_events : D4 B H' v_events (dsD m)) (q_standings : D4 B H' v_standings (dsD m)) (q_heights : D4 B H' v_heights (dsD m)) : Ob m B H' (He.ga K "Bounded") o ["own_events", "own_standings", "own_heights"] ["events", "standings", "heights"] 0 := by
  refine ⟨dx, _, s.free nx, ins, fun f hf => ?_, fun x hx => ?_, .inl rfl⟩
  · simp only [List.mem_cons, List.not_mem_nil, or_false] at hf
    rcases hf with rfl | rfl | rfl
    · exact ⟨v_events, by rw [lk (by decide +kernel), lk (by decide +kernel), lkh], q_events⟩
    · exact ⟨v_standings, by rw [lk (by decide +kernel), lkh], q_standings⟩
    · exact ⟨v_heights, by rw [lkh], q_heights⟩
  · simp only [List.mem_cons, List.not_mem_nil, or_false] at hx
    rcases hx with rfl | rfl | rfl
    · rw [lk (by decide +kernel), lk (by decide +kernel), lk (by decide +kernel), lk (by decide +kernel)]; rfl
    · rw [lk (by decide +kernel), lk (by decide +kernel), lk (by decide +kernel), lk (by decide +kernel)]; rfl
    · rw [lk (by decide +kernel), lk (by decide +kernel), lk (by decide +kernel), lk (by decide +kernel)]; rfl
theorem mk_Endless {m : Int} {B H0 H' : Hp} {o dx t : Addr} {v_lead v_ring v_tail : V} (s : Same B H0) (nx : H0 o = none) (ins : H' o = some (.ins (He.ga K "Endless") dx (putF "own_parts" (V.ref t) ([])))) (ht0 : H0 t = none) (ht : H' t = some (.tup [v_lead, v_ring, v_tail]))
    (q_lead : D4 B H' v_lead (dsD m)) (q_ring : D4 B H' v_ring (dsD m)) (q_tail : D4 B H' v_tail (dsD m)) : Ob m B H' (He.ga K "Endless") o [] ["lead", "ring", "tail"] 3 := by
  refine ⟨dx, _, s.free nx, ins, fun f hf => ?_, fun x hx => ?_, .inr ⟨t, _, ?_, s.free ht0, ht, rfl, fun x hx => ?_⟩⟩
  · cases hf
  · simp only [List.mem_cons, List.not_mem_nil, or_false] at hx
    rcases hx with rfl | rfl | rfl
    · rw [lk (by decide +kernel)]; rfl
    · rw [lk (by decide +kernel)]; rfl
    · rw [lk (by decide +kernel)]; rfl
  · rw [lkh]
  · simp only [List.mem_cons, List.not_mem_nil, or_false] at hx
    rcases hx with rfl | rfl | rfl
    · exact q_lead
    · exact q_ring
    · exact q_tail
theorem mk_Even {m : Int} {B H0 H' : Hp} {o dx  : Addr} {x_most v_events : V} (s : Same B H0) (nx : H0 o = none) (ins : H' o = some (.ins (He.ga K "Even") dx (putF "own_events" (v_events) (putF "own_most" (x_most) ([])))))
    (q_events : D4 B H' v_events (dsD m)) : Ob m B H' (He.ga K "Even") o ["own_events"] ["events"] 0 := by
  refine ⟨dx, _, s.free nx, ins, fun f hf => ?_, fun x hx => ?_, .inl rfl⟩
  · simp only [List.mem_cons, List.not_mem_nil, or_false] at hf
    rcases hf with rfl
    · exact ⟨v_events, by rw [lkh], q_events⟩
  · simp only [List.mem_cons, List.not_mem_nil, or_false] at hx
    rcases hx with rfl
    · rw [lk (by decide +kernel), lk (by decide +kernel)]; rfl
theorem mk_Uneven {m : Int} {B H0 H' : Hp} {o dx t : Addr} {v_lead v_ring : V} (s : Same B H0) (nx : H0 o = none) (ins : H' o = some (.ins (He.ga K "Uneven") dx (putF "own_parts" (V.ref t) ([])))) (ht0 : H0 t = none) (ht : H' t = some (.tup [v_lead, v_ring]))
    (q_lead : D4 B H' v_lead (dsD m)) (q_ring : D4 B H' v_ring (dsD m)) : Ob m B H' (He.ga K "Uneven") o [] ["lead", "ring"] 2 := by
  refine ⟨dx, _, s.free nx, ins, fun f hf => ?_, fun x hx => ?_, .inr ⟨t, _, ?_, s.free ht0, ht, rfl, fun x hx => ?_⟩⟩
  · cases hf
  · simp only [List.mem_cons, List.not_mem_nil, or_false] at hx
    rcases hx with rfl | rfl
    · rw [lk (by decide +kernel)]; rfl
    · rw [lk (by decide +kernel)]; rfl
  · rw [lkh]
  · simp only [List.mem_cons, List.not_mem_nil, or_false] at hx
    rcases hx with rfl | rfl
    · exact q_lead
    · exact q_ring
theorem mk_Alike {m : Int} {B H0 H' : Hp} {o dx  : Addr} {v_pairs : V} (s : Same B H0) (nx : H0 o = none) (ins : H' o = some (.ins (He.ga K "Alike") dx (putF "own_pairs" (v_pairs) ([]))))
    (q_pairs : D4 B H' v_pairs (dsD m)) : Ob m B H' (He.ga K "Alike") o ["own_pairs"] ["pairs"] 0 := by
  refine ⟨dx, _, s.free nx, ins, fun f hf => ?_, fun x hx => ?_, .inl rfl⟩
  · simp only [List.mem_cons, List.not_mem_nil, or_false] at hf
    rcases hf with rfl
    · exact ⟨v_pairs, by rw [lkh], q_pairs⟩
  · simp only [List.mem_cons, List.not_mem_nil, or_false] at hx
    rcases hx with rfl
    · rw [lk (by decide +kernel)]; rfl
theorem mk_Unlike {m : Int} {B H0 H' : Hp} {o dx  : Addr} {v_heard : V} (s : Same B H0) (nx : H0 o = none) (ins : H' o = some (.ins (He.ga K "Unlike") dx (putF "own_heard" (v_heard) ([]))))
    (q_heard : D4 B H' v_heard (dsD m)) : Ob m B H' (He.ga K "Unlike") o ["own_heard"] ["heard"] 0 := by
  refine ⟨dx, _, s.free nx, ins, fun f hf => ?_, fun x hx => ?_, .inl rfl⟩
  · simp only [List.mem_cons, List.not_mem_nil, or_false] at hf
    rcases hf with rfl
    · exact ⟨v_heard, by rw [lkh], q_heard⟩
  · simp only [List.mem_cons, List.not_mem_nil, or_false] at hx
    rcases hx with rfl
    · rw [lk (by decide +kernel)]; rfl
theorem mk_Least {m : Int} {B H0 H' : Hp} {o dx  : Addr} {x_size v_foes : V} (s : Same B H0) (nx : H0 o = none) (ins : H' o = some (.ins (He.ga K "Least") dx (putF "own_foes" (v_foes) (putF "own_size" (x_size) ([])))))
    (q_foes : D4 B H' v_foes (dsD m)) : Ob m B H' (He.ga K "Least") o ["own_foes"] ["foes"] 0 := by
  refine ⟨dx, _, s.free nx, ins, fun f hf => ?_, fun x hx => ?_, .inl rfl⟩
  · simp only [List.mem_cons, List.not_mem_nil, or_false] at hf
    rcases hf with rfl
    · exact ⟨v_foes, by rw [lkh], q_foes⟩
  · simp only [List.mem_cons, List.not_mem_nil, or_false] at hx
    rcases hx with rfl
    · rw [lk (by decide +kernel), lk (by decide +kernel)]; rfl
end
end K75

set_option maxHeartbeats 8000000
namespace K75
open PySem PySem.Spec PyProof.Rows L2
section
variable {P : Program} {w : World} {K : PySem.W.Frag} {mg : Str → Option Value} {base : Heap}
theorem tyl {H : Hp} {a : Addr} {xs : List V} (h : H a = some (.lst xs)) : tyV K "list" (.ref a) H := .inl ⟨rfl, xs, SqL.of h⟩
theorem Shape.to {G H H' : Hp} {m : Int} {v : V} {p a t1 b t2 t3 c q e : Addr} (S : Shape G H m v p a t1 b t2 t3 c q e) (h : ∀ x o, G x = none → H x = some o → H' x = some o) : Shape G H' m v p a t1 b t2 t3 c q e :=
  { S with hp := h _ _ S.gp S.hp, ha := h _ _ S.ga S.ha, h1 := h _ _ S.g1 S.h1, hb := h _ _ S.gb S.hb, h2 := h _ _ S.g2 S.h2, h3 := h _ _ S.g3 S.h3, hc := h _ _ S.gc S.hc, hq := h _ _ S.gq S.hq, he := h _ _ S.ge S.he }
structure Apart (p a t1 b t2 t3 c q e : Addr) : Prop where
  p_a : p ≠ a
  p_b : p ≠ b
  p_c : p ≠ c
  p_e : p ≠ e
  t1_a : t1 ≠ a
  b_a : b ≠ a
  t2_a : t2 ≠ a
  t2_b : t2 ≠ b
  t2_c : t2 ≠ c
  t2_e : t2 ≠ e
  t3_a : t3 ≠ a
  t3_b : t3 ≠ b
  c_a : c ≠ a
  c_b : c ≠ b
  q_a : q ≠ a
  q_b : q ≠ b
  q_c : q ≠ c
  e_a : e ≠ a
  e_b : e ≠ b
  e_c : e ≠ c
theorem Shape.apart {G H : Hp} {m : Int} {v : V} {p a t1 b t2 t3 c q e : Addr} (S : Shape G H m v p a t1 b t2 t3 c q e) : Apart p a t1 b t2 t3 c q e := by
  constructor
  · exact ne_of S.hp S.ha (by intro z; first | (simp at z; done) | (simp at z; revert z; decide +kernel) | (injection z with z; injection z with z _; injection z with z; revert z; decide +kernel))
  · exact ne_of S.hp S.hb (by intro z; first | (simp at z; done) | (simp at z; revert z; decide +kernel) | (injection z with z; injection z with z _; injection z with z; revert z; decide +kernel))
  · exact ne_of S.hp S.hc (by intro z; first | (simp at z; done) | (simp at z; revert z; decide +kernel) | (injection z with z; injection z with z _; injection z with z; revert z; decide +kernel))
  · exact ne_of S.hp S.he (by intro z; first | (simp at z; done) | (simp at z; revert z; decide +kernel) | (injection z with z; injection z with z _; injection z with z; revert z; decide +kernel))
  · exact ne_of S.h1 S.ha (by intro z; first | (simp at z; done) | (simp at z; revert z; decide +kernel) | (injection z with z; injection z with z _; injection z with z; revert z; decide +kernel))
  · exact ne_of S.hb S.ha (by intro z; first | (simp at z; done) | (simp at z; revert z; decide +kernel) | (injection z with z; injection z with z _; injection z with z; revert z; decide +kernel))
  · exact ne_of S.h2 S.ha (by intro z; first | (simp at z; done) | (simp at z; revert z; decide +kernel) | (injection z with z; injection z with z _; injection z with z; revert z; decide +kernel))
  · exact ne_of S.h2 S.hb (by intro z; first | (simp at z; done) | (simp at z; revert z; decide +kernel) | (injection z with z; injection z with z _; injection z with z; revert z; decide +kernel))
  · exact ne_of S.h2 S.hc (by intro z; first | (simp at z; done) | (simp at z; revert z; decide +kernel) | (injection z with z; injection z with z _; injection z with z; revert z; decide +kernel))
  · exact ne_of S.h2 S.he (by intro z; first | (simp at z; done) | (simp at z; revert z; decide +kernel) | (injection z with z; injection z with z _; injection z with z; revert z; decide +kernel))
  · exact ne_of S.h3 S.ha (by intro z; first | (simp at z; done) | (simp at z; revert z; decide +kernel) | (injection z with z; injection z with z _; injection z with z; revert z; decide +kernel))
  · exact ne_of S.h3 S.hb (by intro z; first | (simp at z; done) | (simp at z; revert z; decide +kernel) | (injection z with z; injection z with z _; injection z with z; revert z; decide +kernel))
  · exact ne_of S.hc S.ha (by intro z; first | (simp at z; done) | (simp at z; revert z; decide +kernel) | (injection z with z; injection z with z _; injection z with z; revert z; decide +kernel))
  · exact ne_of S.hc S.hb (by intro z; first | (simp at z; done) | (simp at z; revert z; decide +kernel) | (injection z with z; injection z with z _; injection z with z; revert z; decide +kernel))
  · exact ne_of S.hq S.ha (by intro z; first | (simp at z; done) | (simp at z; revert z; decide +kernel) | (injection z with z; injection z with z _; injection z with z; revert z; decide +kernel))
  · exact ne_of S.hq S.hb (by intro z; first | (simp at z; done) | (simp at z; revert z; decide +kernel) | (injection z with z; injection z with z _; injection z with z; revert z; decide +kernel))
  · exact ne_of S.hq S.hc (by intro z; first | (simp at z; done) | (simp at z; revert z; decide +kernel) | (injection z with z; injection z with z _; injection z with z; revert z; decide +kernel))
  · exact ne_of S.he S.ha (by intro z; first | (simp at z; done) | (simp at z; revert z; decide +kernel) | (injection z with z; injection z with z _; injection z with z; revert z; decide +kernel))
  · exact ne_of S.he S.hb (by intro z; first | (simp at z; done) | (simp at z; revert z; decide +kernel) | (injection z with z; injection z with z _; injection z with z; revert z; decide +kernel))
  · exact ne_of S.he S.hc (by intro z; first | (simp at z; done) | (simp at z; revert z; decide +kernel) | (injection z with z; injection z with z _; injection z with z; revert z; decide +kernel))
/-- what stood where no change can reach stands -/
abbrev Kp (G H H' : Hp) : Prop := ∀ x, G x = none → H' x = H x
theorem kp0 {G H : Hp} : Kp G H H := fun _ _ => rfl
theorem kp1 {G H H' : Hp} {a : Addr} {o : HO} (h : Kp G H H') (n : G a ≠ none) : Kp G H (upd H' a o) := fun x e => by rw [upd_ne (fun z => n (by rw [← z]; exact e))]; exact h x e
theorem Kp.fr {G H H' : Hp} (h : Kp G H H') : Fr G H H' := fun y o e f => by rw [h y e]; exact f
theorem some_ne {H : Hp} {x : Addr} {o : HO} (h : H x = some o) : H x ≠ none := fun e => by rw [h] at e; cases e
theorem mut_rows {G B H : Hp} {m : Int} {v : V} {σ : L2.St} {D : Ends} {tz : TS} {p a t1 b t2 t3 c q e : Addr} (S0 : Shape G B m v p a t1 b t2 t3 c q e) (sB : Same B H) (e3 : σ[3]? = some (some v)) (k : ∀ H', Kp B H H' → tz D σ H') :
    (tSeq (tDrop (tBM K "list" rAppend (tOp (rIxL K) (tVar 3) (tC (.int 0))) (tCons (tC (.int 4)) tNil))) (tSeq (tDrop (tBM0 K "list" rClear (tOp (rIxT K) (tOp (rIxL K) (tVar 3) (tC (.int 1))) (tC (.int 0))))) (tSeq (tDrop (tBM K "list" rAppend (tOp (rIxT K) (tOp (rIxT K) (tOp (rIxL K) (tVar 3) (tC (.int 2))) (tC (.int 0))) (tC (.int 0))) (tCons (tC (.int 5)) tNil))) (tSeq (tDrop (tBM K "list" rAppend (tOp (rIxL K) (tOp (rIxT K) (tOp (rIxL K) (tVar 3) (tC (.int 2))) (tC (.int 1))) (tC (.int 0))) (tCons (tC (.int 6)) tNil))) tz)))) D σ H := by
  have S := S0.to (H' := H) fun x o _ f => sB x o f
  have N := S.apart
  obtain ⟨rfl⟩ : v = .ref p := S.ev
  refine ⟨_, e3, p, _, _, _, rfl, rfl, SqL.of S.hp, rfl, tyl S.ha, a, _, _, rfl, rfl, S.ha, (by show 2 < sizeLine; decide), ⟨_, e3, p, _, _, _, rfl, rfl, SqL.of (by rw [upd_ne N.p_a]; exact S.hp), rfl, t1, _, _, _, rfl, rfl, SqT.of (by rw [upd_ne N.t1_a]; exact S.h1), rfl, tyl (by rw [upd_ne N.b_a]; exact S.hb), b, _, rfl, rfl, (by rw [upd_ne N.b_a]; exact S.hb), ⟨_, e3, p, _, _, _, rfl, rfl, SqL.of (by rw [upd_ne N.p_b, upd_ne N.p_a]; exact S.hp), rfl, t2, _, _, _, rfl, rfl, SqT.of (by rw [upd_ne N.t2_b, upd_ne N.t2_a]; exact S.h2), rfl, t3, _, _, _, rfl, rfl, SqT.of (by rw [upd_ne N.t3_b, upd_ne N.t3_a]; exact S.h3), rfl, tyl (by rw [upd_ne N.c_b, upd_ne N.c_a]; exact S.hc), c, _, _, rfl, rfl, (by rw [upd_ne N.c_b, upd_ne N.c_a]; exact S.hc), (by show 1 < sizeLine; decide), ⟨_, e3, p, _, _, _, rfl, rfl, SqL.of (by rw [upd_ne N.p_c, upd_ne N.p_b, upd_ne N.p_a]; exact S.hp), rfl, t2, _, _, _, rfl, rfl, SqT.of (by rw [upd_ne N.t2_c, upd_ne N.t2_b, upd_ne N.t2_a]; exact S.h2), rfl, q, _, _, _, rfl, rfl, SqL.of (by rw [upd_ne N.q_c, upd_ne N.q_b, upd_ne N.q_a]; exact S.hq), rfl, tyl (by rw [upd_ne N.e_c, upd_ne N.e_b, upd_ne N.e_a]; exact S.he), e, _, _, rfl, rfl, (by rw [upd_ne N.e_c, upd_ne N.e_b, upd_ne N.e_a]; exact S.he), (by show 1 < sizeLine; decide),  k _ (kp1 (kp1 (kp1 (kp1 kp0 (some_ne S0.ha)) (some_ne S0.hb)) (some_ne S0.hc)) (some_ne S0.he))⟩⟩⟩⟩
theorem mut_one {G G' H : Hp} {m : Int} {v : V} {σ : L2.St} {D : Ends} {p a t1 b t2 t3 c q e : Addr} (S0 : Shape G G' m v p a t1 b t2 t3 c q e) (hG : ∀ x o, G x = none → G' x = some o → H x = some o) (e3 : σ[8]? = some (some v)) (k : ∀ H', Kp G' H H' → (∀ H0 : Hp, (∀ x, G x = none → H0 x = none) → ∀ x, H0 x ≠ none → H' x = H x) → D.nx σ H') :
    (tSeq (tDrop (tBM K "list" rAppend (tOp (rIxL K) (tVar 8) (tC (.int 0))) (tCons (tC (.int 7)) tNil))) (tSeq (tDrop (tBM K "list" rAppend (tOp (rIxT K) (tOp (rIxL K) (tVar 8) (tC (.int 1))) (tC (.int 0))) (tCons (tC (.int 8)) tNil))) (tSeq (tDrop (tBM0 K "list" rClear (tOp (rIxT K) (tOp (rIxT K) (tOp (rIxL K) (tVar 8) (tC (.int 2))) (tC (.int 0))) (tC (.int 0))))) (tSeq (tDrop (tBM K "list" rAppend (tOp (rIxL K) (tOp (rIxT K) (tOp (rIxL K) (tVar 8) (tC (.int 2))) (tC (.int 1))) (tC (.int 0))) (tCons (tC (.int 9)) tNil))) (tDrop (tBM K "list" rAppend (tVar 8) (tCons (tC .non) tNil))))))) D σ H := by
  have S := S0.to (H' := H) hG
  have N := S.apart
  obtain ⟨rfl⟩ : v = .ref p := S.ev
  refine ⟨_, e3, p, _, _, _, rfl, rfl, SqL.of S.hp, rfl, tyl S.ha, a, _, _, rfl, rfl, S.ha, (by show 2 < sizeLine; decide), ⟨_, e3, p, _, _, _, rfl, rfl, SqL.of (by rw [upd_ne N.p_a]; exact S.hp), rfl, t1, _, _, _, rfl, rfl, SqT.of (by rw [upd_ne N.t1_a]; exact S.h1), rfl, tyl (by rw [upd_ne N.b_a]; exact S.hb), b, _, _, rfl, rfl, (by rw [upd_ne N.b_a]; exact S.hb), (by show 1 < sizeLine; decide), ⟨_, e3, p, _, _, _, rfl, rfl, SqL.of (by rw [upd_ne N.p_b, upd_ne N.p_a]; exact S.hp), rfl, t2, _, _, _, rfl, rfl, SqT.of (by rw [upd_ne N.t2_b, upd_ne N.t2_a]; exact S.h2), rfl, t3, _, _, _, rfl, rfl, SqT.of (by rw [upd_ne N.t3_b, upd_ne N.t3_a]; exact S.h3), rfl, tyl (by rw [upd_ne N.c_b, upd_ne N.c_a]; exact S.hc), c, _, rfl, rfl, (by rw [upd_ne N.c_b, upd_ne N.c_a]; exact S.hc), ⟨_, e3, p, _, _, _, rfl, rfl, SqL.of (by rw [upd_ne N.p_c, upd_ne N.p_b, upd_ne N.p_a]; exact S.hp), rfl, t2, _, _, _, rfl, rfl, SqT.of (by rw [upd_ne N.t2_c, upd_ne N.t2_b, upd_ne N.t2_a]; exact S.h2), rfl, q, _, _, _, rfl, rfl, SqL.of (by rw [upd_ne N.q_c, upd_ne N.q_b, upd_ne N.q_a]; exact S.hq), rfl, tyl (by rw [upd_ne N.e_c, upd_ne N.e_b, upd_ne N.e_a]; exact S.he), e, _, _, rfl, rfl, (by rw [upd_ne N.e_c, upd_ne N.e_b, upd_ne N.e_a]; exact S.he), (by show 1 < sizeLine; decide), ⟨_, e3, tyl (by rw [upd_ne N.p_e, upd_ne N.p_c, upd_ne N.p_b, upd_ne N.p_a]; exact S.hp), p, _, _, rfl, rfl, (by rw [upd_ne N.p_e, upd_ne N.p_c, upd_ne N.p_b, upd_ne N.p_a]; exact S.hp), (by show 3 < sizeLine; decide),  k _ (kp1 (kp1 (kp1 (kp1 (kp1 kp0 (some_ne S0.ha)) (some_ne S0.hb)) (some_ne S0.hc)) (some_ne S0.he)) (some_ne S0.hp)) fun H0 z x hx => ?_⟩⟩⟩⟩⟩
  rw [upd_ne (fun y => hx (by rw [y]; exact z _ S0.gp)), upd_ne (fun y => hx (by rw [y]; exact z _ S0.ge)), upd_ne (fun y => hx (by rw [y]; exact z _ S0.gc)), upd_ne (fun y => hx (by rw [y]; exact z _ S0.gb)), upd_ne (fun y => hx (by rw [y]; exact z _ S0.ga))]
def Ch (m : Int) (t : Addr) : List V → Hp → Hp → Prop
  | [], G, _ => G t = none
  | v :: l, G, H => ∃ G' : Hp, D4 G G' v (dsD m) ∧ (∀ x o, G x = none → G' x = some o → H x = some o) ∧ (∀ x, G' x = none → G x = none) ∧ Ch m t l G' H
theorem Ch.fr {m : Int} {t : Addr} : ∀ {l : List V} {G H H' : Hp}, Kp G H H' → Ch m t l G H → Ch m t l G H'
  | [], _, _, _, _, h => h
  | v :: l, G, H, H', k, ⟨G', a, b, c, d⟩ => ⟨G', a, fun x o e f => by rw [k x e]; exact b x o e f, c, Ch.fr (fun x e => k x (c x e)) d⟩
theorem Ch.t {m : Int} {t : Addr} : ∀ {l : List V} {G H : Hp}, Ch m t l G H → G t = none
  | [], _, _, h => h
  | v :: l, G, H, ⟨G', a, b, c, d⟩ => c _ (Ch.t d)
theorem tell_Safe_table {m : Int} {B H : Hp} {due : V} {pm o0 o1 o2 o3 o4 o5 o6 o7 o8 : Addr} {σ : L2.St} {Q : VK} (j : JJ m K B H due pm o0 o1 o2 o3 o4 o5 o6 o7 o8) (e5 : σ[5]? = some (some (.ref pm))) (k : ∀ v' H', Same H H' → D4 H H' v' (dsD m) → Q v' H') :
    tMeth (He.ga K "Safe") "table" (spGet (He.ga K "Safe") "own_table") [] E0 (tOp (rIxL K) (tVar 5) (tC (.int 0))) tNil σ H Q := by
  obtain ⟨dx, fs, _, h, hf, hm, hp⟩ := j.j0.ex
  obtain ⟨v, e, q⟩ := hf "own_table" (by simp)
  exact ⟨_, e5, pm, _, _, _, rfl, rfl, SqL.of j.hm, rfl, o0, dx, fs, rfl, h, hm _ (by simp), o0, dx, fs, v, _, rfl, h, e, q.z, k⟩
theorem tell_Harmed_events {m : Int} {B H : Hp} {due : V} {pm o0 o1 o2 o3 o4 o5 o6 o7 o8 : Addr} {σ : L2.St} {Q : VK} (j : JJ m K B H due pm o0 o1 o2 o3 o4 o5 o6 o7 o8) (e5 : σ[5]? = some (some (.ref pm))) (k : ∀ v' H', Same H H' → D4 H H' v' (dsD m) → Q v' H') :
    tMeth (He.ga K "Harmed") "events" (spGet (He.ga K "Harmed") "own_events") [] E0 (tOp (rIxL K) (tVar 5) (tC (.int 1))) tNil σ H Q := by
  obtain ⟨dx, fs, _, h, hf, hm, hp⟩ := j.j1.ex
  obtain ⟨v, e, q⟩ := hf "own_events" (by simp)
  exact ⟨_, e5, pm, _, _, _, rfl, rfl, SqL.of j.hm, rfl, o1, dx, fs, rfl, h, hm _ (by simp), o1, dx, fs, v, _, rfl, h, e, q.z, k⟩
theorem tell_Bounded_events {m : Int} {B H : Hp} {due : V} {pm o0 o1 o2 o3 o4 o5 o6 o7 o8 : Addr} {σ : L2.St} {Q : VK} (j : JJ m K B H due pm o0 o1 o2 o3 o4 o5 o6 o7 o8) (e5 : σ[5]? = some (some (.ref pm))) (k : ∀ v' H', Same H H' → D4 H H' v' (dsD m) → Q v' H') :
    tMeth (He.ga K "Bounded") "events" (spGet (He.ga K "Bounded") "own_events") [] E0 (tOp (rIxL K) (tVar 5) (tC (.int 2))) tNil σ H Q := by
  obtain ⟨dx, fs, _, h, hf, hm, hp⟩ := j.j2.ex
  obtain ⟨v, e, q⟩ := hf "own_events" (by simp)
  exact ⟨_, e5, pm, _, _, _, rfl, rfl, SqL.of j.hm, rfl, o2, dx, fs, rfl, h, hm _ (by simp), o2, dx, fs, v, _, rfl, h, e, q.z, k⟩
theorem tell_Bounded_standings {m : Int} {B H : Hp} {due : V} {pm o0 o1 o2 o3 o4 o5 o6 o7 o8 : Addr} {σ : L2.St} {Q : VK} (j : JJ m K B H due pm o0 o1 o2 o3 o4 o5 o6 o7 o8) (e5 : σ[5]? = some (some (.ref pm))) (k : ∀ v' H', Same H H' → D4 H H' v' (dsD m) → Q v' H') :
    tMeth (He.ga K "Bounded") "standings" (spGet (He.ga K "Bounded") "own_standings") [] E0 (tOp (rIxL K) (tVar 5) (tC (.int 2))) tNil σ H Q := by
  obtain ⟨dx, fs, _, h, hf, hm, hp⟩ := j.j2.ex
  obtain ⟨v, e, q⟩ := hf "own_standings" (by simp)
  exact ⟨_, e5, pm, _, _, _, rfl, rfl, SqL.of j.hm, rfl, o2, dx, fs, rfl, h, hm _ (by simp), o2, dx, fs, v, _, rfl, h, e, q.z, k⟩
theorem tell_Bounded_heights {m : Int} {B H : Hp} {due : V} {pm o0 o1 o2 o3 o4 o5 o6 o7 o8 : Addr} {σ : L2.St} {Q : VK} (j : JJ m K B H due pm o0 o1 o2 o3 o4 o5 o6 o7 o8) (e5 : σ[5]? = some (some (.ref pm))) (k : ∀ v' H', Same H H' → D4 H H' v' (dsD m) → Q v' H') :
    tMeth (He.ga K "Bounded") "heights" (spGet (He.ga K "Bounded") "own_heights") [] E0 (tOp (rIxL K) (tVar 5) (tC (.int 2))) tNil σ H Q := by
  obtain ⟨dx, fs, _, h, hf, hm, hp⟩ := j.j2.ex
  obtain ⟨v, e, q⟩ := hf "own_heights" (by simp)
  exact ⟨_, e5, pm, _, _, _, rfl, rfl, SqL.of j.hm, rfl, o2, dx, fs, rfl, h, hm _ (by simp), o2, dx, fs, v, _, rfl, h, e, q.z, k⟩
theorem tell_Endless_lead {m : Int} {B H : Hp} {due : V} {pm o0 o1 o2 o3 o4 o5 o6 o7 o8 : Addr} {σ : L2.St} {Q : VK} (j : JJ m K B H due pm o0 o1 o2 o3 o4 o5 o6 o7 o8) (e5 : σ[5]? = some (some (.ref pm))) (k : ∀ v' H', Same H H' → D4 H H' v' (dsD m) → Q v' H') :
    tMeth (He.ga K "Endless") "lead" (spPart (He.ga K "Endless") 0) [] E0 (tOp (rIxL K) (tVar 5) (tC (.int 3))) tNil σ H Q := by
  obtain ⟨dx, fs, _, h, hf, hm, hp⟩ := j.j3.ex
  obtain ⟨t, xs, e1, _, e2, e3, e4⟩ := hp.resolve_left (by decide)
  have hi : 0 < xs.length := by omega
  exact ⟨_, e5, pm, _, _, _, rfl, rfl, SqL.of j.hm, rfl, o3, dx, fs, rfl, h, hm _ (by simp), o3, dx, fs, t, xs, xs[0], _, rfl, h, e1, e2, List.getElem?_eq_getElem hi, (e4 _ (List.getElem_mem hi)).z, k⟩
theorem tell_Endless_ring {m : Int} {B H : Hp} {due : V} {pm o0 o1 o2 o3 o4 o5 o6 o7 o8 : Addr} {σ : L2.St} {Q : VK} (j : JJ m K B H due pm o0 o1 o2 o3 o4 o5 o6 o7 o8) (e5 : σ[5]? = some (some (.ref pm))) (k : ∀ v' H', Same H H' → D4 H H' v' (dsD m) → Q v' H') :
    tMeth (He.ga K "Endless") "ring" (spPart (He.ga K "Endless") 1) [] E0 (tOp (rIxL K) (tVar 5) (tC (.int 3))) tNil σ H Q := by
  obtain ⟨dx, fs, _, h, hf, hm, hp⟩ := j.j3.ex
  obtain ⟨t, xs, e1, _, e2, e3, e4⟩ := hp.resolve_left (by decide)
  have hi : 1 < xs.length := by omega
  exact ⟨_, e5, pm, _, _, _, rfl, rfl, SqL.of j.hm, rfl, o3, dx, fs, rfl, h, hm _ (by simp), o3, dx, fs, t, xs, xs[1], _, rfl, h, e1, e2, List.getElem?_eq_getElem hi, (e4 _ (List.getElem_mem hi)).z, k⟩
theorem tell_Endless_tail {m : Int} {B H : Hp} {due : V} {pm o0 o1 o2 o3 o4 o5 o6 o7 o8 : Addr} {σ : L2.St} {Q : VK} (j : JJ m K B H due pm o0 o1 o2 o3 o4 o5 o6 o7 o8) (e5 : σ[5]? = some (some (.ref pm))) (k : ∀ v' H', Same H H' → D4 H H' v' (dsD m) → Q v' H') :
    tMeth (He.ga K "Endless") "tail" (spPart (He.ga K "Endless") 2) [] E0 (tOp (rIxL K) (tVar 5) (tC (.int 3))) tNil σ H Q := by
  obtain ⟨dx, fs, _, h, hf, hm, hp⟩ := j.j3.ex
  obtain ⟨t, xs, e1, _, e2, e3, e4⟩ := hp.resolve_left (by decide)
  have hi : 2 < xs.length := by omega
  exact ⟨_, e5, pm, _, _, _, rfl, rfl, SqL.of j.hm, rfl, o3, dx, fs, rfl, h, hm _ (by simp), o3, dx, fs, t, xs, xs[2], _, rfl, h, e1, e2, List.getElem?_eq_getElem hi, (e4 _ (List.getElem_mem hi)).z, k⟩
theorem tell_Even_events {m : Int} {B H : Hp} {due : V} {pm o0 o1 o2 o3 o4 o5 o6 o7 o8 : Addr} {σ : L2.St} {Q : VK} (j : JJ m K B H due pm o0 o1 o2 o3 o4 o5 o6 o7 o8) (e5 : σ[5]? = some (some (.ref pm))) (k : ∀ v' H', Same H H' → D4 H H' v' (dsD m) → Q v' H') :
    tMeth (He.ga K "Even") "events" (spGet (He.ga K "Even") "own_events") [] E0 (tOp (rIxL K) (tVar 5) (tC (.int 4))) tNil σ H Q := by
  obtain ⟨dx, fs, _, h, hf, hm, hp⟩ := j.j4.ex
  obtain ⟨v, e, q⟩ := hf "own_events" (by simp)
  exact ⟨_, e5, pm, _, _, _, rfl, rfl, SqL.of j.hm, rfl, o4, dx, fs, rfl, h, hm _ (by simp), o4, dx, fs, v, _, rfl, h, e, q.z, k⟩
theorem tell_Uneven_lead {m : Int} {B H : Hp} {due : V} {pm o0 o1 o2 o3 o4 o5 o6 o7 o8 : Addr} {σ : L2.St} {Q : VK} (j : JJ m K B H due pm o0 o1 o2 o3 o4 o5 o6 o7 o8) (e5 : σ[5]? = some (some (.ref pm))) (k : ∀ v' H', Same H H' → D4 H H' v' (dsD m) → Q v' H') :
    tMeth (He.ga K "Uneven") "lead" (spPart (He.ga K "Uneven") 0) [] E0 (tOp (rIxL K) (tVar 5) (tC (.int 5))) tNil σ H Q := by
  obtain ⟨dx, fs, _, h, hf, hm, hp⟩ := j.j5.ex
  obtain ⟨t, xs, e1, _, e2, e3, e4⟩ := hp.resolve_left (by decide)
  have hi : 0 < xs.length := by omega
  exact ⟨_, e5, pm, _, _, _, rfl, rfl, SqL.of j.hm, rfl, o5, dx, fs, rfl, h, hm _ (by simp), o5, dx, fs, t, xs, xs[0], _, rfl, h, e1, e2, List.getElem?_eq_getElem hi, (e4 _ (List.getElem_mem hi)).z, k⟩
theorem tell_Uneven_ring {m : Int} {B H : Hp} {due : V} {pm o0 o1 o2 o3 o4 o5 o6 o7 o8 : Addr} {σ : L2.St} {Q : VK} (j : JJ m K B H due pm o0 o1 o2 o3 o4 o5 o6 o7 o8) (e5 : σ[5]? = some (some (.ref pm))) (k : ∀ v' H', Same H H' → D4 H H' v' (dsD m) → Q v' H') :
    tMeth (He.ga K "Uneven") "ring" (spPart (He.ga K "Uneven") 1) [] E0 (tOp (rIxL K) (tVar 5) (tC (.int 5))) tNil σ H Q := by
  obtain ⟨dx, fs, _, h, hf, hm, hp⟩ := j.j5.ex
  obtain ⟨t, xs, e1, _, e2, e3, e4⟩ := hp.resolve_left (by decide)
  have hi : 1 < xs.length := by omega
  exact ⟨_, e5, pm, _, _, _, rfl, rfl, SqL.of j.hm, rfl, o5, dx, fs, rfl, h, hm _ (by simp), o5, dx, fs, t, xs, xs[1], _, rfl, h, e1, e2, List.getElem?_eq_getElem hi, (e4 _ (List.getElem_mem hi)).z, k⟩
theorem tell_Alike_pairs {m : Int} {B H : Hp} {due : V} {pm o0 o1 o2 o3 o4 o5 o6 o7 o8 : Addr} {σ : L2.St} {Q : VK} (j : JJ m K B H due pm o0 o1 o2 o3 o4 o5 o6 o7 o8) (e5 : σ[5]? = some (some (.ref pm))) (k : ∀ v' H', Same H H' → D4 H H' v' (dsD m) → Q v' H') :
    tMeth (He.ga K "Alike") "pairs" (spGet (He.ga K "Alike") "own_pairs") [] E0 (tOp (rIxL K) (tVar 5) (tC (.int 6))) tNil σ H Q := by
  obtain ⟨dx, fs, _, h, hf, hm, hp⟩ := j.j6.ex
  obtain ⟨v, e, q⟩ := hf "own_pairs" (by simp)
  exact ⟨_, e5, pm, _, _, _, rfl, rfl, SqL.of j.hm, rfl, o6, dx, fs, rfl, h, hm _ (by simp), o6, dx, fs, v, _, rfl, h, e, q.z, k⟩
theorem tell_Unlike_heard {m : Int} {B H : Hp} {due : V} {pm o0 o1 o2 o3 o4 o5 o6 o7 o8 : Addr} {σ : L2.St} {Q : VK} (j : JJ m K B H due pm o0 o1 o2 o3 o4 o5 o6 o7 o8) (e5 : σ[5]? = some (some (.ref pm))) (k : ∀ v' H', Same H H' → D4 H H' v' (dsD m) → Q v' H') :
    tMeth (He.ga K "Unlike") "heard" (spGet (He.ga K "Unlike") "own_heard") [] E0 (tOp (rIxL K) (tVar 5) (tC (.int 7))) tNil σ H Q := by
  obtain ⟨dx, fs, _, h, hf, hm, hp⟩ := j.j7.ex
  obtain ⟨v, e, q⟩ := hf "own_heard" (by simp)
  exact ⟨_, e5, pm, _, _, _, rfl, rfl, SqL.of j.hm, rfl, o7, dx, fs, rfl, h, hm _ (by simp), o7, dx, fs, v, _, rfl, h, e, q.z, k⟩
theorem tell_Least_foes {m : Int} {B H : Hp} {due : V} {pm o0 o1 o2 o3 o4 o5 o6 o7 o8 : Addr} {σ : L2.St} {Q : VK} (j : JJ m K B H due pm o0 o1 o2 o3 o4 o5 o6 o7 o8) (e5 : σ[5]? = some (some (.ref pm))) (k : ∀ v' H', Same H H' → D4 H H' v' (dsD m) → Q v' H') :
    tMeth (He.ga K "Least") "foes" (spGet (He.ga K "Least") "own_foes") [] E0 (tOp (rIxL K) (tVar 5) (tC (.int 8))) tNil σ H Q := by
  obtain ⟨dx, fs, _, h, hf, hm, hp⟩ := j.j8.ex
  obtain ⟨v, e, q⟩ := hf "own_foes" (by simp)
  exact ⟨_, e5, pm, _, _, _, rfl, rfl, SqL.of j.hm, rfl, o8, dx, fs, rfl, h, hm _ (by simp), o8, dx, fs, v, _, rfl, h, e, q.z, k⟩
theorem same_two {H : Hp} {x dx : Addr} {o u : HO} (h1 : H x = none) (h2 : H dx = none) : Same H (upd (upd H dx u) x o) := fun b v e => by rw [upd_ne (ne_of_none e h1), upd_ne (ne_of_none e h2)]; exact e
theorem low_two {B H H' : Hp} {x dx : Addr} {o u : HO} {v : V} {d : List PyData} (s : Same B H) (h1 : H x = none) (h2 : H dx = none) (q : D4 (upd (upd H dx u) x o) H' v d) : D4 B H' v d := New.low (s.trans (same_two h1 h2)) q
theorem make_Safe {m : Int} {B H0 : Hp} {rv : V} {σ : L2.St} {Q : VK} (s : Same B H0) (hr : D4 Z H0 rv (dsD m)) (e3 : σ[3]? = some (some rv)) (k : ∀ o H', Same H0 H' → Ob m B H' (He.ga K "Safe") o ["own_table"] ["table"] 0 → Q (.ref o) H') :
    tMake (He.ga K "Safe") (sp_Safe K) [] E0 (tCons (tVar 3) tNil) σ H0 Q := by
  refine ⟨_, e3, fun x dx hx hdx hne => ?_⟩
  refine ⟨x, dx, _, _, rfl, upd_same, hr.same (same_two hx hdx), fun H' v_table kp hi q_table => ⟨rfl, k x H' ?_ ?_⟩⟩
  · exact fun b o e => kp b o (ne_of_none e hx) (same_two hx hdx b o e)
  · exact mk_Safe (H0 := _) s hx hi (low_two s hx hdx q_table)
theorem make_Harmed {m : Int} {B H0 : Hp} {rv : V} {σ : L2.St} {Q : VK} (s : Same B H0) (hr : D4 Z H0 rv (dsD m)) (e3 : σ[3]? = some (some rv)) (k : ∀ o H', Same H0 H' → Ob m B H' (He.ga K "Harmed") o ["own_events"] ["events"] 0 → Q (.ref o) H') :
    tMake (He.ga K "Harmed") (sp_Harmed K) [] E0 (tCons (tVar 3) tNil) σ H0 Q := by
  refine ⟨_, e3, fun x dx hx hdx hne => ?_⟩
  refine ⟨x, dx, _, _, rfl, upd_same, hr.same (same_two hx hdx), fun H' v_events kp hi q_events => ⟨rfl, k x H' ?_ ?_⟩⟩
  · exact fun b o e => kp b o (ne_of_none e hx) (same_two hx hdx b o e)
  · exact mk_Harmed (H0 := _) s hx hi (low_two s hx hdx q_events)
theorem make_Bounded {m : Int} {B H0 : Hp} {rv : V} {σ : L2.St} {Q : VK} (s : Same B H0) (hr : D4 Z H0 rv (dsD m)) (e3 : σ[3]? = some (some rv)) (e2 : σ[2]? = some (some (.int m))) (k : ∀ o H', Same H0 H' → Ob m B H' (He.ga K "Bounded") o ["own_events", "own_standings", "own_heights"] ["events", "standings", "heights"] 0 → Q (.ref o) H') :
    tMake (He.ga K "Bounded") (sp_Bounded K) [] E0 (tCons (tVar 2) (tCons (tVar 3) (tCons (tVar 3) (tCons (tVar 3) tNil)))) σ H0 Q := by
  refine ⟨_, e2, _, e3, _, e3, _, e3, fun x dx hx hdx hne => ?_⟩
  refine ⟨x, dx, _, _, _, _, _, _, _, rfl, upd_same, hr.same (same_two hx hdx), hr.same (same_two hx hdx), hr.same (same_two hx hdx), fun H' v_events v_standings v_heights kp hi q_events q_standings q_heights => ⟨rfl, k x H' ?_ ?_⟩⟩
  · exact fun b o e => kp b o (ne_of_none e hx) (same_two hx hdx b o e)
  · exact mk_Bounded (H0 := _) s hx hi (low_two s hx hdx q_events) (low_two s hx hdx q_standings) (low_two s hx hdx q_heights)
theorem make_Endless {m : Int} {B H0 : Hp} {rv : V} {σ : L2.St} {Q : VK} (s : Same B H0) (hr : D4 Z H0 rv (dsD m)) (e3 : σ[3]? = some (some rv)) (k : ∀ o H', Same H0 H' → Ob m B H' (He.ga K "Endless") o [] ["lead", "ring", "tail"] 3 → Q (.ref o) H') :
    tMake (He.ga K "Endless") (sp_Endless K) [] E0 (tCons (tVar 3) (tCons (tVar 3) (tCons (tVar 3) tNil))) σ H0 Q := by
  refine ⟨_, e3, _, e3, _, e3, fun x dx hx hdx hne => ?_⟩
  refine ⟨x, dx, _, _, _, _, _, _, rfl, upd_same, hr.same (same_two hx hdx), hr.same (same_two hx hdx), hr.same (same_two hx hdx), fun H' v_lead v_ring v_tail t kp hi ht0 ht q_lead q_ring q_tail => ⟨rfl, k x H' ?_ ?_⟩⟩
  · exact fun b o e => kp b o (ne_of_none e hx) (same_two hx hdx b o e)
  · exact mk_Endless (H0 := _) s hx hi ((same_two hx hdx).free ht0) ht (low_two s hx hdx q_lead) (low_two s hx hdx q_ring) (low_two s hx hdx q_tail)
theorem make_Even {m : Int} {B H0 : Hp} {rv : V} {σ : L2.St} {Q : VK} (s : Same B H0) (hr : D4 Z H0 rv (dsD m)) (e3 : σ[3]? = some (some rv)) (e2 : σ[2]? = some (some (.int m))) (k : ∀ o H', Same H0 H' → Ob m B H' (He.ga K "Even") o ["own_events"] ["events"] 0 → Q (.ref o) H') :
    tMake (He.ga K "Even") (sp_Even K) [] E0 (tCons (tVar 2) (tCons (tVar 3) tNil)) σ H0 Q := by
  refine ⟨_, e2, _, e3, fun x dx hx hdx hne => ?_⟩
  refine ⟨x, dx, _, _, _, rfl, upd_same, hr.same (same_two hx hdx), fun H' v_events kp hi q_events => ⟨rfl, k x H' ?_ ?_⟩⟩
  · exact fun b o e => kp b o (ne_of_none e hx) (same_two hx hdx b o e)
  · exact mk_Even (H0 := _) s hx hi (low_two s hx hdx q_events)
theorem make_Uneven {m : Int} {B H0 : Hp} {rv : V} {σ : L2.St} {Q : VK} (s : Same B H0) (hr : D4 Z H0 rv (dsD m)) (e3 : σ[3]? = some (some rv)) (k : ∀ o H', Same H0 H' → Ob m B H' (He.ga K "Uneven") o [] ["lead", "ring"] 2 → Q (.ref o) H') :
    tMake (He.ga K "Uneven") (sp_Uneven K) [] E0 (tCons (tVar 3) (tCons (tVar 3) tNil)) σ H0 Q := by
  refine ⟨_, e3, _, e3, fun x dx hx hdx hne => ?_⟩
  refine ⟨x, dx, _, _, _, _, rfl, upd_same, hr.same (same_two hx hdx), hr.same (same_two hx hdx), fun H' v_lead v_ring t kp hi ht0 ht q_lead q_ring => ⟨rfl, k x H' ?_ ?_⟩⟩
  · exact fun b o e => kp b o (ne_of_none e hx) (same_two hx hdx b o e)
  · exact mk_Uneven (H0 := _) s hx hi ((same_two hx hdx).free ht0) ht (low_two s hx hdx q_lead) (low_two s hx hdx q_ring)
theorem make_Alike {m : Int} {B H0 : Hp} {rv : V} {σ : L2.St} {Q : VK} (s : Same B H0) (hr : D4 Z H0 rv (dsD m)) (e3 : σ[3]? = some (some rv)) (k : ∀ o H', Same H0 H' → Ob m B H' (He.ga K "Alike") o ["own_pairs"] ["pairs"] 0 → Q (.ref o) H') :
    tMake (He.ga K "Alike") (sp_Alike K) [] E0 (tCons (tVar 3) tNil) σ H0 Q := by
  refine ⟨_, e3, fun x dx hx hdx hne => ?_⟩
  refine ⟨x, dx, _, _, rfl, upd_same, hr.same (same_two hx hdx), fun H' v_pairs kp hi q_pairs => ⟨rfl, k x H' ?_ ?_⟩⟩
  · exact fun b o e => kp b o (ne_of_none e hx) (same_two hx hdx b o e)
  · exact mk_Alike (H0 := _) s hx hi (low_two s hx hdx q_pairs)
theorem make_Unlike {m : Int} {B H0 : Hp} {rv : V} {σ : L2.St} {Q : VK} (s : Same B H0) (hr : D4 Z H0 rv (dsD m)) (e3 : σ[3]? = some (some rv)) (k : ∀ o H', Same H0 H' → Ob m B H' (He.ga K "Unlike") o ["own_heard"] ["heard"] 0 → Q (.ref o) H') :
    tMake (He.ga K "Unlike") (sp_Unlike K) [] E0 (tCons (tVar 3) tNil) σ H0 Q := by
  refine ⟨_, e3, fun x dx hx hdx hne => ?_⟩
  refine ⟨x, dx, _, _, rfl, upd_same, hr.same (same_two hx hdx), fun H' v_heard kp hi q_heard => ⟨rfl, k x H' ?_ ?_⟩⟩
  · exact fun b o e => kp b o (ne_of_none e hx) (same_two hx hdx b o e)
  · exact mk_Unlike (H0 := _) s hx hi (low_two s hx hdx q_heard)
theorem make_Least {m : Int} {B H0 : Hp} {rv : V} {σ : L2.St} {Q : VK} (s : Same B H0) (hr : D4 Z H0 rv (dsD m)) (e3 : σ[3]? = some (some rv)) (k : ∀ o H', Same H0 H' → Ob m B H' (He.ga K "Least") o ["own_foes"] ["foes"] 0 → Q (.ref o) H') :
    tMake (He.ga K "Least") (sp_Least K) [] E0 (tCons (tTup (tCons (tC (.int 2)) (tCons (tC (.int 2)) tNil))) (tCons (tVar 3) tNil)) σ H0 Q := by
  refine ⟨(by show 2 ≤ sizeLine; decide), fun tt htt => ⟨_, e3, fun x dx hx hdx hne => ?_⟩⟩
  have s1 := same_new (o := .tup [.int 2, .int 2]) htt
  have s := s.trans s1
  have hr := hr.same s1
  have k : ∀ o H', Same _ H' → Ob m B H' (He.ga K "Least") o ["own_foes"] ["foes"] 0 → Q (.ref o) H' := fun o H' a => k o H' (s1.trans a)
  refine ⟨x, dx, _, _, _, rfl, upd_same, hr.same (same_two hx hdx), fun H' v_foes kp hi q_foes => ⟨rfl, k x H' ?_ ?_⟩⟩
  · exact fun b o e => kp b o (ne_of_none e hx) (same_two hx hdx b o e)
  · exact mk_Least (H0 := _) s hx hi (low_two s hx hdx q_foes)
end
end K75

set_option maxHeartbeats 16000000
namespace K75
open PySem PySem.Spec PyProof.Rows L2
/-! ### what the walk leans on -/
structure Kit (P : Program) (w : World) (K : PySem.W.Frag) (mg : Str → Option Value) (base : Heap) : Prop where
  gb : mg "_law_bag" = some (.ref (He.ga K "_law_bag"))
  kb : PySem.W.keepIn K (.ref (He.ga K "_law_bag")) = true
  ob : OkF P w K mg base 1 (He.ga K "_law_bag") ["_law_script"] (spBag K)
  gt : mg "_law_take" = some (.ref (He.ga K "_law_take"))
  kt : PySem.W.keepIn K (.ref (He.ga K "_law_take")) = true
  ot : OkF P w K mg base 1 (He.ga K "_law_take") ["_law_bag_here", "_law_many"] spTake
  gs : mg "_law_same" = some (.ref (He.ga K "_law_same"))
  ks : PySem.W.keepIn K (.ref (He.ga K "_law_same")) = true
  os : OkF P w K mg base 6 (He.ga K "_law_same") ["_law_found", "_law_due"] (spSame 6)
  rg : mg "range" = none
  g_Safe : mg "Safe" = some (.ref (He.ga K "Safe"))
  c_Safe : Cls K (He.ga K "Safe")
  k_Safe : Mk K (He.ga K "Safe") (He.ma K (He.ga K "Safe") "__init__")
  i_Safe : OkF P w K mg base 6 (He.ma K (He.ga K "Safe") "__init__") ["self", "table"] (sp_Safe K)
  g_Harmed : mg "Harmed" = some (.ref (He.ga K "Harmed"))
  c_Harmed : Cls K (He.ga K "Harmed")
  k_Harmed : Mk K (He.ga K "Harmed") (He.ma K (He.ga K "Harmed") "__init__")
  i_Harmed : OkF P w K mg base 6 (He.ma K (He.ga K "Harmed") "__init__") ["self", "events"] (sp_Harmed K)
  g_Bounded : mg "Bounded" = some (.ref (He.ga K "Bounded"))
  c_Bounded : Cls K (He.ga K "Bounded")
  k_Bounded : Mk K (He.ga K "Bounded") (He.ma K (He.ga K "Bounded") "__init__")
  i_Bounded : OkF P w K mg base 6 (He.ma K (He.ga K "Bounded") "__init__") ["self", "most", "events", "standings", "heights"] (sp_Bounded K)
  g_Endless : mg "Endless" = some (.ref (He.ga K "Endless"))
  c_Endless : Cls K (He.ga K "Endless")
  k_Endless : Mk K (He.ga K "Endless") (He.ma K (He.ga K "Endless") "__init__")
  i_Endless : OkF P w K mg base 6 (He.ma K (He.ga K "Endless") "__init__") ["self", "lead", "ring", "tail"] (sp_Endless K)
  g_Even : mg "Even" = some (.ref (He.ga K "Even"))
  c_Even : Cls K (He.ga K "Even")
  k_Even : Mk K (He.ga K "Even") (He.ma K (He.ga K "Even") "__init__")
  i_Even : OkF P w K mg base 6 (He.ma K (He.ga K "Even") "__init__") ["self", "most", "events"] (sp_Even K)
  g_Uneven : mg "Uneven" = some (.ref (He.ga K "Uneven"))
  c_Uneven : Cls K (He.ga K "Uneven")
  k_Uneven : Mk K (He.ga K "Uneven") (He.ma K (He.ga K "Uneven") "__init__")
  i_Uneven : OkF P w K mg base 6 (He.ma K (He.ga K "Uneven") "__init__") ["self", "lead", "ring"] (sp_Uneven K)
  g_Alike : mg "Alike" = some (.ref (He.ga K "Alike"))
  c_Alike : Cls K (He.ga K "Alike")
  k_Alike : Mk K (He.ga K "Alike") (He.ma K (He.ga K "Alike") "__init__")
  i_Alike : OkF P w K mg base 6 (He.ma K (He.ga K "Alike") "__init__") ["self", "pairs"] (sp_Alike K)
  g_Unlike : mg "Unlike" = some (.ref (He.ga K "Unlike"))
  c_Unlike : Cls K (He.ga K "Unlike")
  k_Unlike : Mk K (He.ga K "Unlike") (He.ma K (He.ga K "Unlike") "__init__")
  i_Unlike : OkF P w K mg base 6 (He.ma K (He.ga K "Unlike") "__init__") ["self", "heard"] (sp_Unlike K)
  g_Least : mg "Least" = some (.ref (He.ga K "Least"))
  c_Least : Cls K (He.ga K "Least")
  k_Least : Mk K (He.ga K "Least") (He.ma K (He.ga K "Least") "__init__")
  i_Least : OkF P w K mg base 6 (He.ma K (He.ga K "Least") "__init__") ["self", "size", "foes"] (sp_Least K)
  m_Safe_table : Meth K (He.ga K "Safe") "table" (He.ma K (He.ga K "Safe") "table")
  o_Safe_table : OkF P w K mg base 6 (He.ma K (He.ga K "Safe") "table") ["self"] (spGet (He.ga K "Safe") "own_table")
  m_Harmed_events : Meth K (He.ga K "Harmed") "events" (He.ma K (He.ga K "Harmed") "events")
  o_Harmed_events : OkF P w K mg base 6 (He.ma K (He.ga K "Harmed") "events") ["self"] (spGet (He.ga K "Harmed") "own_events")
  m_Bounded_events : Meth K (He.ga K "Bounded") "events" (He.ma K (He.ga K "Bounded") "events")
  o_Bounded_events : OkF P w K mg base 6 (He.ma K (He.ga K "Bounded") "events") ["self"] (spGet (He.ga K "Bounded") "own_events")
  m_Bounded_standings : Meth K (He.ga K "Bounded") "standings" (He.ma K (He.ga K "Bounded") "standings")
  o_Bounded_standings : OkF P w K mg base 6 (He.ma K (He.ga K "Bounded") "standings") ["self"] (spGet (He.ga K "Bounded") "own_standings")
  m_Bounded_heights : Meth K (He.ga K "Bounded") "heights" (He.ma K (He.ga K "Bounded") "heights")
  o_Bounded_heights : OkF P w K mg base 6 (He.ma K (He.ga K "Bounded") "heights") ["self"] (spGet (He.ga K "Bounded") "own_heights")
  m_Endless_lead : Meth K (He.ga K "Endless") "lead" (He.ma K (He.ga K "Endless") "lead")
  o_Endless_lead : OkF P w K mg base 6 (He.ma K (He.ga K "Endless") "lead") ["self"] (spPart (He.ga K "Endless") 0)
  m_Endless_ring : Meth K (He.ga K "Endless") "ring" (He.ma K (He.ga K "Endless") "ring")
  o_Endless_ring : OkF P w K mg base 6 (He.ma K (He.ga K "Endless") "ring") ["self"] (spPart (He.ga K "Endless") 1)
  m_Endless_tail : Meth K (He.ga K "Endless") "tail" (He.ma K (He.ga K "Endless") "tail")
  o_Endless_tail : OkF P w K mg base 6 (He.ma K (He.ga K "Endless") "tail") ["self"] (spPart (He.ga K "Endless") 2)
  m_Even_events : Meth K (He.ga K "Even") "events" (He.ma K (He.ga K "Even") "events")
  o_Even_events : OkF P w K mg base 6 (He.ma K (He.ga K "Even") "events") ["self"] (spGet (He.ga K "Even") "own_events")
  m_Uneven_lead : Meth K (He.ga K "Uneven") "lead" (He.ma K (He.ga K "Uneven") "lead")
  o_Uneven_lead : OkF P w K mg base 6 (He.ma K (He.ga K "Uneven") "lead") ["self"] (spPart (He.ga K "Uneven") 0)
  m_Uneven_ring : Meth K (He.ga K "Uneven") "ring" (He.ma K (He.ga K "Uneven") "ring")
  o_Uneven_ring : OkF P w K mg base 6 (He.ma K (He.ga K "Uneven") "ring") ["self"] (spPart (He.ga K "Uneven") 1)
  m_Alike_pairs : Meth K (He.ga K "Alike") "pairs" (He.ma K (He.ga K "Alike") "pairs")
  o_Alike_pairs : OkF P w K mg base 6 (He.ma K (He.ga K "Alike") "pairs") ["self"] (spGet (He.ga K "Alike") "own_pairs")
  m_Unlike_heard : Meth K (He.ga K "Unlike") "heard" (He.ma K (He.ga K "Unlike") "heard")
  o_Unlike_heard : OkF P w K mg base 6 (He.ma K (He.ga K "Unlike") "heard") ["self"] (spGet (He.ga K "Unlike") "own_heard")
  m_Least_foes : Meth K (He.ga K "Least") "foes" (He.ma K (He.ga K "Least") "foes")
  o_Least_foes : OkF P w K mg base 6 (He.ma K (He.ga K "Least") "foes") ["self"] (spGet (He.ga K "Least") "own_foes")
section
variable {P : Program} {w : World} {K : PySem.W.Frag} {mg : Str → Option Value} {base : Heap} {h : Heap}
theorem kit (X : K.In h) (G : h.Ns mainGlobals mg) (c : He.SaysD fa fn K) : Kit P w K mg base := by
  have gi : mg "isinstance" = none := (He.free_ok X G (c.fact 79 (f := .free "isinstance") rfl))
  have f_list : mg "list" = none := (He.free_ok X G (c.fact 81 (f := .free "list") rfl))
  have f_tuple : mg "tuple" = none := (He.free_ok X G (c.fact 85 (f := .free "tuple") rfl))
  have f_bool : mg "bool" = none := (He.free_ok X G (c.fact 77 (f := .free "bool") rfl))
  have f_int : mg "int" = none := (He.free_ok X G (c.fact 78 (f := .free "int") rfl))
  have f_str : mg "str" = none := (He.free_ok X G (c.fact 84 (f := .free "str") rfl))
  have f_len : mg "len" = none := (He.free_ok X G (c.fact 80 (f := .free "len") rfl))
  have f_all : mg "all" = none := (He.free_ok X G (c.fact 76 (f := .free "all") rfl))
  have f_range : mg "range" = none := (He.free_ok X G (c.fact 83 (f := .free "range") rfl))
  have GC : ∀ n, OkF P w K mg base n (He.ga K "copy_of") ["value"] (spCopy n) := ok_copy (c.def_ 3 (d := d_copy_of) rfl) (He.glo_ok X G (c.fact 1 (f := .glo "copy_of") rfl)) gi f_list f_tuple
  have GL : OkF P w K mg base 1 (He.ga K "is_listed") ["value"] spListed := ok_listed (c.def_ 0 (d := d_is_listed) rfl) gi f_list f_tuple
  obtain ⟨_, FC⟩ := (c.def_ 3 (d := d_copy_of) rfl)
  obtain ⟨_, FL⟩ := (c.def_ 0 (d := d_is_listed) rfl)
  obtain ⟨_, FR⟩ := (c.def_ 4 (d := d_row_copy) rfl)
  have GR : OkF P w K mg base 5 (He.ga K "row_copy") ["value"] (spRow 3) := ok_row 3 ⟨_, FR⟩ (He.glo_ok X G (c.fact 1 (f := .glo "copy_of") rfl)) (He.glo_ok X G (c.fact 0 (f := .glo "is_listed") rfl)) FC.kp FL.kp (GC 4) GL
  obtain ⟨_, FB⟩ := (c.def_ 28 (d := d_law_bag) rfl)
  obtain ⟨_, FT⟩ := (c.def_ 29 (d := d_law_take) rfl)
  obtain ⟨_, FS⟩ := (c.def_ 30 (d := d_law_same) rfl)
  exact {
    gb := (He.glo_ok X G (c.fact 3 (f := .glo "_law_bag") rfl)),
    kb := FB.kp,
    ob := ok_bag ⟨_, FB⟩ f_int f_list,
    gt := (He.glo_ok X G (c.fact 4 (f := .glo "_law_take") rfl)),
    kt := FT.kp,
    ot := ok_take ⟨_, FT⟩ f_int f_len,
    gs := (He.glo_ok X G (c.fact 5 (f := .glo "_law_same") rfl)),
    ks := FS.kp,
    os := ok_same ⟨_, FS⟩ (He.glo_ok X G (c.fact 5 (f := .glo "_law_same") rfl)) gi f_list f_tuple f_bool f_int f_str f_len f_all f_range 6,
    rg := f_range,
    g_Safe := (He.glo_ok X G (c.fact 12 (f := .glo "Safe") rfl)),
    c_Safe := (He.cls_ok (c.fact 13 (f := .cls "Safe") rfl)),
    k_Safe := (He.mkr_ok (c.fact 16 (f := .mkr "Safe") rfl)),
    i_Safe := ok_Safe (c.def_ 5 (d := d_Safe_init) rfl) (He.cls_ok (c.fact 13 (f := .cls "Safe") rfl)) (He.noat_ok (c.fact 15 (f := .noat "Safe" "own_table") rfl)) (He.glo_ok X G (c.fact 2 (f := .glo "row_copy") rfl)) FR.kp GR,
    g_Harmed := (He.glo_ok X G (c.fact 18 (f := .glo "Harmed") rfl)),
    c_Harmed := (He.cls_ok (c.fact 19 (f := .cls "Harmed") rfl)),
    k_Harmed := (He.mkr_ok (c.fact 22 (f := .mkr "Harmed") rfl)),
    i_Harmed := ok_Harmed (c.def_ 7 (d := d_Harmed_init) rfl) (He.cls_ok (c.fact 19 (f := .cls "Harmed") rfl)) (He.noat_ok (c.fact 21 (f := .noat "Harmed" "own_events") rfl)) (He.glo_ok X G (c.fact 2 (f := .glo "row_copy") rfl)) FR.kp GR,
    g_Bounded := (He.glo_ok X G (c.fact 24 (f := .glo "Bounded") rfl)),
    c_Bounded := (He.cls_ok (c.fact 25 (f := .cls "Bounded") rfl)),
    k_Bounded := (He.mkr_ok (c.fact 31 (f := .mkr "Bounded") rfl)),
    i_Bounded := ok_Bounded (c.def_ 9 (d := d_Bounded_init) rfl) (He.cls_ok (c.fact 25 (f := .cls "Bounded") rfl)) (He.noat_ok (c.fact 27 (f := .noat "Bounded" "own_most") rfl)) (He.noat_ok (c.fact 28 (f := .noat "Bounded" "own_events") rfl)) (He.noat_ok (c.fact 29 (f := .noat "Bounded" "own_standings") rfl)) (He.noat_ok (c.fact 30 (f := .noat "Bounded" "own_heights") rfl)) (He.glo_ok X G (c.fact 2 (f := .glo "row_copy") rfl)) FR.kp GR,
    g_Endless := (He.glo_ok X G (c.fact 35 (f := .glo "Endless") rfl)),
    c_Endless := (He.cls_ok (c.fact 36 (f := .cls "Endless") rfl)),
    k_Endless := (He.mkr_ok (c.fact 39 (f := .mkr "Endless") rfl)),
    i_Endless := ok_Endless (c.def_ 13 (d := d_Endless_init) rfl) (He.cls_ok (c.fact 36 (f := .cls "Endless") rfl)) (He.noat_ok (c.fact 38 (f := .noat "Endless" "own_parts") rfl)) (He.glo_ok X G (c.fact 2 (f := .glo "row_copy") rfl)) FR.kp GR,
    g_Even := (He.glo_ok X G (c.fact 43 (f := .glo "Even") rfl)),
    c_Even := (He.cls_ok (c.fact 44 (f := .cls "Even") rfl)),
    k_Even := (He.mkr_ok (c.fact 48 (f := .mkr "Even") rfl)),
    i_Even := ok_Even (c.def_ 17 (d := d_Even_init) rfl) (He.cls_ok (c.fact 44 (f := .cls "Even") rfl)) (He.noat_ok (c.fact 46 (f := .noat "Even" "own_most") rfl)) (He.noat_ok (c.fact 47 (f := .noat "Even" "own_events") rfl)) (He.glo_ok X G (c.fact 2 (f := .glo "row_copy") rfl)) FR.kp GR,
    g_Uneven := (He.glo_ok X G (c.fact 50 (f := .glo "Uneven") rfl)),
    c_Uneven := (He.cls_ok (c.fact 51 (f := .cls "Uneven") rfl)),
    k_Uneven := (He.mkr_ok (c.fact 54 (f := .mkr "Uneven") rfl)),
    i_Uneven := ok_Uneven (c.def_ 19 (d := d_Uneven_init) rfl) (He.cls_ok (c.fact 51 (f := .cls "Uneven") rfl)) (He.noat_ok (c.fact 53 (f := .noat "Uneven" "own_parts") rfl)) (He.glo_ok X G (c.fact 2 (f := .glo "row_copy") rfl)) FR.kp GR,
    g_Alike := (He.glo_ok X G (c.fact 57 (f := .glo "Alike") rfl)),
    c_Alike := (He.cls_ok (c.fact 58 (f := .cls "Alike") rfl)),
    k_Alike := (He.mkr_ok (c.fact 61 (f := .mkr "Alike") rfl)),
    i_Alike := ok_Alike (c.def_ 22 (d := d_Alike_init) rfl) (He.cls_ok (c.fact 58 (f := .cls "Alike") rfl)) (He.noat_ok (c.fact 60 (f := .noat "Alike" "own_pairs") rfl)) (He.glo_ok X G (c.fact 2 (f := .glo "row_copy") rfl)) FR.kp GR,
    g_Unlike := (He.glo_ok X G (c.fact 63 (f := .glo "Unlike") rfl)),
    c_Unlike := (He.cls_ok (c.fact 64 (f := .cls "Unlike") rfl)),
    k_Unlike := (He.mkr_ok (c.fact 67 (f := .mkr "Unlike") rfl)),
    i_Unlike := ok_Unlike (c.def_ 24 (d := d_Unlike_init) rfl) (He.cls_ok (c.fact 64 (f := .cls "Unlike") rfl)) (He.noat_ok (c.fact 66 (f := .noat "Unlike" "own_heard") rfl)) (He.glo_ok X G (c.fact 2 (f := .glo "row_copy") rfl)) FR.kp GR,
    g_Least := (He.glo_ok X G (c.fact 69 (f := .glo "Least") rfl)),
    c_Least := (He.cls_ok (c.fact 70 (f := .cls "Least") rfl)),
    k_Least := (He.mkr_ok (c.fact 74 (f := .mkr "Least") rfl)),
    i_Least := ok_Least (c.def_ 26 (d := d_Least_init) rfl) (He.cls_ok (c.fact 70 (f := .cls "Least") rfl)) (He.noat_ok (c.fact 72 (f := .noat "Least" "own_size") rfl)) (He.noat_ok (c.fact 73 (f := .noat "Least" "own_foes") rfl)) (He.glo_ok X G (c.fact 2 (f := .glo "row_copy") rfl)) FR.kp GR,
    m_Safe_table := (He.meth_ok (c.fact 17 (f := .meth "Safe" "table") rfl)),
    o_Safe_table := ok_Safe_table (c.def_ 6 (d := d_Safe_table) rfl) (He.cls_ok (c.fact 13 (f := .cls "Safe") rfl)) (He.noat_ok (c.fact 15 (f := .noat "Safe" "own_table") rfl)) (He.glo_ok X G (c.fact 2 (f := .glo "row_copy") rfl)) FR.kp GR,
    m_Harmed_events := (He.meth_ok (c.fact 23 (f := .meth "Harmed" "events") rfl)),
    o_Harmed_events := ok_Harmed_events (c.def_ 8 (d := d_Harmed_events) rfl) (He.cls_ok (c.fact 19 (f := .cls "Harmed") rfl)) (He.noat_ok (c.fact 21 (f := .noat "Harmed" "own_events") rfl)) (He.glo_ok X G (c.fact 2 (f := .glo "row_copy") rfl)) FR.kp GR,
    m_Bounded_events := (He.meth_ok (c.fact 32 (f := .meth "Bounded" "events") rfl)),
    o_Bounded_events := ok_Bounded_events (c.def_ 10 (d := d_Bounded_events) rfl) (He.cls_ok (c.fact 25 (f := .cls "Bounded") rfl)) (He.noat_ok (c.fact 28 (f := .noat "Bounded" "own_events") rfl)) (He.glo_ok X G (c.fact 2 (f := .glo "row_copy") rfl)) FR.kp GR,
    m_Bounded_standings := (He.meth_ok (c.fact 33 (f := .meth "Bounded" "standings") rfl)),
    o_Bounded_standings := ok_Bounded_standings (c.def_ 11 (d := d_Bounded_standings) rfl) (He.cls_ok (c.fact 25 (f := .cls "Bounded") rfl)) (He.noat_ok (c.fact 29 (f := .noat "Bounded" "own_standings") rfl)) (He.glo_ok X G (c.fact 2 (f := .glo "row_copy") rfl)) FR.kp GR,
    m_Bounded_heights := (He.meth_ok (c.fact 34 (f := .meth "Bounded" "heights") rfl)),
    o_Bounded_heights := ok_Bounded_heights (c.def_ 12 (d := d_Bounded_heights) rfl) (He.cls_ok (c.fact 25 (f := .cls "Bounded") rfl)) (He.noat_ok (c.fact 30 (f := .noat "Bounded" "own_heights") rfl)) (He.glo_ok X G (c.fact 2 (f := .glo "row_copy") rfl)) FR.kp GR,
    m_Endless_lead := (He.meth_ok (c.fact 40 (f := .meth "Endless" "lead") rfl)),
    o_Endless_lead := ok_Endless_lead (c.def_ 14 (d := d_Endless_lead) rfl) (He.cls_ok (c.fact 36 (f := .cls "Endless") rfl)) (He.noat_ok (c.fact 38 (f := .noat "Endless" "own_parts") rfl)) (He.glo_ok X G (c.fact 2 (f := .glo "row_copy") rfl)) FR.kp GR,
    m_Endless_ring := (He.meth_ok (c.fact 41 (f := .meth "Endless" "ring") rfl)),
    o_Endless_ring := ok_Endless_ring (c.def_ 15 (d := d_Endless_ring) rfl) (He.cls_ok (c.fact 36 (f := .cls "Endless") rfl)) (He.noat_ok (c.fact 38 (f := .noat "Endless" "own_parts") rfl)) (He.glo_ok X G (c.fact 2 (f := .glo "row_copy") rfl)) FR.kp GR,
    m_Endless_tail := (He.meth_ok (c.fact 42 (f := .meth "Endless" "tail") rfl)),
    o_Endless_tail := ok_Endless_tail (c.def_ 16 (d := d_Endless_tail) rfl) (He.cls_ok (c.fact 36 (f := .cls "Endless") rfl)) (He.noat_ok (c.fact 38 (f := .noat "Endless" "own_parts") rfl)) (He.glo_ok X G (c.fact 2 (f := .glo "row_copy") rfl)) FR.kp GR,
    m_Even_events := (He.meth_ok (c.fact 49 (f := .meth "Even" "events") rfl)),
    o_Even_events := ok_Even_events (c.def_ 18 (d := d_Even_events) rfl) (He.cls_ok (c.fact 44 (f := .cls "Even") rfl)) (He.noat_ok (c.fact 47 (f := .noat "Even" "own_events") rfl)) (He.glo_ok X G (c.fact 2 (f := .glo "row_copy") rfl)) FR.kp GR,
    m_Uneven_lead := (He.meth_ok (c.fact 55 (f := .meth "Uneven" "lead") rfl)),
    o_Uneven_lead := ok_Uneven_lead (c.def_ 20 (d := d_Uneven_lead) rfl) (He.cls_ok (c.fact 51 (f := .cls "Uneven") rfl)) (He.noat_ok (c.fact 53 (f := .noat "Uneven" "own_parts") rfl)) (He.glo_ok X G (c.fact 2 (f := .glo "row_copy") rfl)) FR.kp GR,
    m_Uneven_ring := (He.meth_ok (c.fact 56 (f := .meth "Uneven" "ring") rfl)),
    o_Uneven_ring := ok_Uneven_ring (c.def_ 21 (d := d_Uneven_ring) rfl) (He.cls_ok (c.fact 51 (f := .cls "Uneven") rfl)) (He.noat_ok (c.fact 53 (f := .noat "Uneven" "own_parts") rfl)) (He.glo_ok X G (c.fact 2 (f := .glo "row_copy") rfl)) FR.kp GR,
    m_Alike_pairs := (He.meth_ok (c.fact 62 (f := .meth "Alike" "pairs") rfl)),
    o_Alike_pairs := ok_Alike_pairs (c.def_ 23 (d := d_Alike_pairs) rfl) (He.cls_ok (c.fact 58 (f := .cls "Alike") rfl)) (He.noat_ok (c.fact 60 (f := .noat "Alike" "own_pairs") rfl)) (He.glo_ok X G (c.fact 2 (f := .glo "row_copy") rfl)) FR.kp GR,
    m_Unlike_heard := (He.meth_ok (c.fact 68 (f := .meth "Unlike" "heard") rfl)),
    o_Unlike_heard := ok_Unlike_heard (c.def_ 25 (d := d_Unlike_heard) rfl) (He.cls_ok (c.fact 64 (f := .cls "Unlike") rfl)) (He.noat_ok (c.fact 66 (f := .noat "Unlike" "own_heard") rfl)) (He.glo_ok X G (c.fact 2 (f := .glo "row_copy") rfl)) FR.kp GR,
    m_Least_foes := (He.meth_ok (c.fact 75 (f := .meth "Least" "foes") rfl)),
    o_Least_foes := ok_Least_foes (c.def_ 27 (d := d_Least_foes) rfl) (He.cls_ok (c.fact 70 (f := .cls "Least") rfl)) (He.noat_ok (c.fact 73 (f := .noat "Least" "own_foes") rfl)) (He.glo_ok X G (c.fact 2 (f := .glo "row_copy") rfl)) FR.kp GR }
theorem inner {m : Int} {a0 a1 a2 a3 a4 a5 a6 : Option V} {t : Addr} {v8 : Option V} {vs : List V} {D : Ends} {Hs H0 : Hp} (hc : Ch m t vs Hs H0) (hL : H0 t = some (.lst vs)) (k : ∀ v H', (∀ x, Hs x ≠ none → H' x = H0 x) → D.nx [a0, a1, a2, a3, a4, a5, a6, some (.ref t), v] H') :
    tFor (iList K (tVar 7)) (gName 8) (tSeq (tDrop (tBM K "list" rAppend (tOp (rIxL K) (tVar 8) (tC (.int 0))) (tCons (tC (.int 7)) tNil))) (tSeq (tDrop (tBM K "list" rAppend (tOp (rIxT K) (tOp (rIxL K) (tVar 8) (tC (.int 1))) (tC (.int 0))) (tCons (tC (.int 8)) tNil))) (tSeq (tDrop (tBM0 K "list" rClear (tOp (rIxT K) (tOp (rIxT K) (tOp (rIxL K) (tVar 8) (tC (.int 2))) (tC (.int 0))) (tC (.int 0))))) (tSeq (tDrop (tBM K "list" rAppend (tOp (rIxL K) (tOp (rIxT K) (tOp (rIxL K) (tVar 8) (tC (.int 2))) (tC (.int 1))) (tC (.int 0))) (tCons (tC (.int 9)) tNil))) (tDrop (tBM K "list" rAppend (tVar 8) (tCons (tC .non) tNil))))))) D [a0, a1, a2, a3, a4, a5, a6, some (.ref t), v8] H0 := by
  refine ⟨_, rfl, t, rfl, ⟨vs, SqL.of hL⟩, for_list (K := K) (a := t) (xs := vs) (fun i σ H => ∃ v, σ = [a0, a1, a2, a3, a4, a5, a6, some (.ref t), v] ∧ H t = some (.lst vs) ∧ (∀ x, Hs x ≠ none → H x = H0 x) ∧ ∃ G, (∀ x, G x = none → Hs x = none) ∧ Ch m t (vs.drop i) G H)
    ⟨v8, rfl, hL, fun _ _ => rfl, Hs, fun _ e => e, hc⟩ (fun i σ H _ ⟨_, _, e, _⟩ => SqL.of e) ?_ ?_⟩
  · rintro i x σ H hi ⟨v, rfl, hT, hk, G, hG, hch⟩
    have hlt : i < vs.length := (List.getElem?_eq_some_iff.mp hi).1
    rw [List.drop_eq_getElem_cons hlt] at hch
    have ex : vs[i] = x := by rw [List.getElem?_eq_getElem hlt] at hi; exact Option.some.inj hi
    rw [ex] at hch
    obtain ⟨G', q, hn, hle, hch⟩ := hch
    obtain ⟨p, a, t1, b, t2, t3, c, q, e, S⟩ := shape q
    refine mut_one S hn rfl fun H' hkp hz => ⟨_, rfl, ?_, fun y hy => ?_, G', fun y ey => hG y (hle y ey), hch.fr hkp⟩
    · rw [hkp _ hch.t]; exact hT
    · rw [hz Hs hG y hy]; exact hk y hy
  · rintro σ H ⟨v, rfl, hT, hk, _⟩
    exact k v H hk
theorem turn {m : Int} {a0 a1 v6 v7 v8 : Option V} {rv due : V} {pm o0 o1 o2 o3 o4 o5 o6 o7 o8 : Addr} {D : Ends} {B H : Hp} (j : JJ m K B H due pm o0 o1 o2 o3 o4 o5 o6 o7 o8) (k : ∀ t v H', JJ m K B H' due pm o0 o1 o2 o3 o4 o5 o6 o7 o8 → D.nx [a0, a1, some (.int m), some rv, some due, some (.ref pm), v6, some (.ref t), v] H') :
    (tSeq (tAsg (tLst (tCons (tMeth (He.ga K "Safe") "table" (spGet (He.ga K "Safe") "own_table") [] E0 (tOp (rIxL K) (tVar 5) (tC (.int 0))) tNil) (tCons (tMeth (He.ga K "Harmed") "events" (spGet (He.ga K "Harmed") "own_events") [] E0 (tOp (rIxL K) (tVar 5) (tC (.int 1))) tNil) (tCons (tMeth (He.ga K "Bounded") "events" (spGet (He.ga K "Bounded") "own_events") [] E0 (tOp (rIxL K) (tVar 5) (tC (.int 2))) tNil) (tCons (tMeth (He.ga K "Bounded") "standings" (spGet (He.ga K "Bounded") "own_standings") [] E0 (tOp (rIxL K) (tVar 5) (tC (.int 2))) tNil) (tCons (tMeth (He.ga K "Bounded") "heights" (spGet (He.ga K "Bounded") "own_heights") [] E0 (tOp (rIxL K) (tVar 5) (tC (.int 2))) tNil) (tCons (tMeth (He.ga K "Endless") "lead" (spPart (He.ga K "Endless") 0) [] E0 (tOp (rIxL K) (tVar 5) (tC (.int 3))) tNil) (tCons (tMeth (He.ga K "Endless") "ring" (spPart (He.ga K "Endless") 1) [] E0 (tOp (rIxL K) (tVar 5) (tC (.int 3))) tNil) (tCons (tMeth (He.ga K "Endless") "tail" (spPart (He.ga K "Endless") 2) [] E0 (tOp (rIxL K) (tVar 5) (tC (.int 3))) tNil) (tCons (tMeth (He.ga K "Even") "events" (spGet (He.ga K "Even") "own_events") [] E0 (tOp (rIxL K) (tVar 5) (tC (.int 4))) tNil) (tCons (tMeth (He.ga K "Uneven") "lead" (spPart (He.ga K "Uneven") 0) [] E0 (tOp (rIxL K) (tVar 5) (tC (.int 5))) tNil) (tCons (tMeth (He.ga K "Uneven") "ring" (spPart (He.ga K "Uneven") 1) [] E0 (tOp (rIxL K) (tVar 5) (tC (.int 5))) tNil) (tCons (tMeth (He.ga K "Alike") "pairs" (spGet (He.ga K "Alike") "own_pairs") [] E0 (tOp (rIxL K) (tVar 5) (tC (.int 6))) tNil) (tCons (tMeth (He.ga K "Unlike") "heard" (spGet (He.ga K "Unlike") "own_heard") [] E0 (tOp (rIxL K) (tVar 5) (tC (.int 7))) tNil) (tCons (tMeth (He.ga K "Least") "foes" (spGet (He.ga K "Least") "own_foes") [] E0 (tOp (rIxL K) (tVar 5) (tC (.int 8))) tNil) tNil))))))))))))))) (gName 7)) (tSeq (tIfS (tNot (tB (tCall (spSame 6) [] E0 (tCons (tVar 7) (tCons (tOp rRep (tLst (tCons (tVar 4) tNil)) (tC (.int 14))) tNil))))) (tRet (tC (.bl false))) tNext) (tFor (iList K (tVar 7)) (gName 8) (tSeq (tDrop (tBM K "list" rAppend (tOp (rIxL K) (tVar 8) (tC (.int 0))) (tCons (tC (.int 7)) tNil))) (tSeq (tDrop (tBM K "list" rAppend (tOp (rIxT K) (tOp (rIxL K) (tVar 8) (tC (.int 1))) (tC (.int 0))) (tCons (tC (.int 8)) tNil))) (tSeq (tDrop (tBM0 K "list" rClear (tOp (rIxT K) (tOp (rIxT K) (tOp (rIxL K) (tVar 8) (tC (.int 2))) (tC (.int 0))) (tC (.int 0))))) (tSeq (tDrop (tBM K "list" rAppend (tOp (rIxL K) (tOp (rIxT K) (tOp (rIxL K) (tVar 8) (tC (.int 2))) (tC (.int 1))) (tC (.int 0))) (tCons (tC (.int 9)) tNil))) (tDrop (tBM K "list" rAppend (tVar 8) (tCons (tC .non) tNil)))))))))) D [a0, a1, some (.int m), some rv, some due, some (.ref pm), v6, v7, v8] H := by
  refine tell_Safe_table j rfl fun v101 H1 s1 q1 => ?_
  have S1 : Same H H1 := s1
  refine tell_Harmed_events (j.fr (Same.fr S1)) rfl fun v102 H2 s2 q2 => ?_
  have S2 : Same H H2 := S1.trans s2
  refine tell_Bounded_events (j.fr (Same.fr S2)) rfl fun v103 H3 s3 q3 => ?_
  have S3 : Same H H3 := S2.trans s3
  refine tell_Bounded_standings (j.fr (Same.fr S3)) rfl fun v104 H4 s4 q4 => ?_
  have S4 : Same H H4 := S3.trans s4
  refine tell_Bounded_heights (j.fr (Same.fr S4)) rfl fun v105 H5 s5 q5 => ?_
  have S5 : Same H H5 := S4.trans s5
  refine tell_Endless_lead (j.fr (Same.fr S5)) rfl fun v106 H6 s6 q6 => ?_
  have S6 : Same H H6 := S5.trans s6
  refine tell_Endless_ring (j.fr (Same.fr S6)) rfl fun v107 H7 s7 q7 => ?_
  have S7 : Same H H7 := S6.trans s7
  refine tell_Endless_tail (j.fr (Same.fr S7)) rfl fun v108 H8 s8 q8 => ?_
  have S8 : Same H H8 := S7.trans s8
  refine tell_Even_events (j.fr (Same.fr S8)) rfl fun v109 H9 s9 q9 => ?_
  have S9 : Same H H9 := S8.trans s9
  refine tell_Uneven_lead (j.fr (Same.fr S9)) rfl fun v110 H10 s10 q10 => ?_
  have S10 : Same H H10 := S9.trans s10
  refine tell_Uneven_ring (j.fr (Same.fr S10)) rfl fun v111 H11 s11 q11 => ?_
  have S11 : Same H H11 := S10.trans s11
  refine tell_Alike_pairs (j.fr (Same.fr S11)) rfl fun v112 H12 s12 q12 => ?_
  have S12 : Same H H12 := S11.trans s12
  refine tell_Unlike_heard (j.fr (Same.fr S12)) rfl fun v113 H13 s13 q13 => ?_
  have S13 : Same H H13 := S12.trans s13
  refine tell_Least_foes (j.fr (Same.fr S13)) rfl fun v114 H14 s14 q14 => ?_
  have S14 : Same H H14 := S13.trans s14
  refine ⟨(by show 14 ≤ sizeLine; decide), fun t ht => ?_⟩
  have T0 : Same H14 (upd H14 t (.lst [v101, v102, v103, v104, v105, v106, v107, v108, v109, v110, v111, v112, v113, v114])) := same_new ht
  refine ⟨_, rfl, _, rfl, (by show 1 ≤ sizeLine; decide), fun u hu => ⟨u, 14, [due], rfl, rfl, upd_same, by decide, by decide, (by show 14 ≤ sizeLine; decide), fun z hz => ?_⟩⟩
  have T1 : Same (upd H14 t (.lst [v101, v102, v103, v104, v105, v106, v107, v108, v109, v110, v111, v112, v113, v114])) (upd (upd H14 t (.lst [v101, v102, v103, v104, v105, v106, v107, v108, v109, v110, v111, v112, v113, v114])) u (.lst [due])) := same_new hu
  have T2 : Same (upd (upd H14 t (.lst [v101, v102, v103, v104, v105, v106, v107, v108, v109, v110, v111, v112, v113, v114])) u (.lst [due])) (upd (upd (upd H14 t (.lst [v101, v102, v103, v104, v105, v106, v107, v108, v109, v110, v111, v112, v113, v114])) u (.lst [due])) z (.lst (List.replicate (14 : Int).toNat [due]).flatten)) := same_new hz
  have T := T0.trans (T1.trans T2)
  have ez : (upd (upd (upd H14 t (.lst [v101, v102, v103, v104, v105, v106, v107, v108, v109, v110, v111, v112, v113, v114])) u (.lst [due])) z (.lst (List.replicate (14 : Int).toNat [due]).flatten)) z = some (.lst [due, due, due, due, due, due, due, due, due, due, due, due, due, due]) := upd_same
  generalize upd (upd (upd H14 t (.lst [v101, v102, v103, v104, v105, v106, v107, v108, v109, v110, v111, v112, v113, v114])) u (.lst [due])) z (.lst (List.replicate (14 : Int).toNat [due]).flatten) = HZ at T2 T ez ⊢
  have et : HZ t = some (.lst [v101, v102, v103, v104, v105, v106, v107, v108, v109, v110, v111, v112, v113, v114]) := T2 _ _ (T1 _ _ upd_same)
  have U14 : Same H14 HZ := T
  have U13 : Same H13 HZ := s14.trans U14
  have U12 : Same H12 HZ := s13.trans U13
  have U11 : Same H11 HZ := s12.trans U12
  have U10 : Same H10 HZ := s11.trans U11
  have U9 : Same H9 HZ := s10.trans U10
  have U8 : Same H8 HZ := s9.trans U9
  have U7 : Same H7 HZ := s8.trans U8
  have U6 : Same H6 HZ := s7.trans U7
  have U5 : Same H5 HZ := s6.trans U6
  have U4 : Same H4 HZ := s5.trans U5
  have U3 : Same H3 HZ := s4.trans U4
  have U2 : Same H2 HZ := s3.trans U3
  have U1 : Same H1 HZ := s2.trans U2
  have jz := j.fr (Same.fr (s1.trans U1))
  refine ⟨.ref t, .ref z, .list (List.replicate 14 (.list (dsD m))), rfl, .inr ⟨t, _, rfl, rfl, et, (by show 14 ≤ 1000; decide), ?_⟩, .inr ⟨z, _, rfl, rfl, ez, (by show 14 ≤ 1000; decide), ?_⟩, fun HW sW => ⟨true, rfl, iteF ?_⟩⟩
  · exact .cons (q1.z.same U1) (.cons (q2.z.same U2) (.cons (q3.z.same U3) (.cons (q4.z.same U4) (.cons (q5.z.same U5) (.cons (q6.z.same U6) (.cons (q7.z.same U7) (.cons (q8.z.same U8) (.cons (q9.z.same U9) (.cons (q10.z.same U10) (.cons (q11.z.same U11) (.cons (q12.z.same U12) (.cons (q13.z.same U13) (.cons (q14.z.same U14) (.nil))))))))))))))
  · exact .cons jz.due.z (.cons jz.due.z (.cons jz.due.z (.cons jz.due.z (.cons jz.due.z (.cons jz.due.z (.cons jz.due.z (.cons jz.due.z (.cons jz.due.z (.cons jz.due.z (.cons jz.due.z (.cons jz.due.z (.cons jz.due.z (.cons jz.due.z (.nil))))))))))))))
  · refine inner (m := m) (Hs := H) (vs := [v101, v102, v103, v104, v105, v106, v107, v108, v109, v110, v111, v112, v113, v114]) ⟨H1, q1, fun x o _ e => sW _ _ (U1 x o e), fun x e => s1.free e, ⟨H2, q2, fun x o _ e => sW _ _ (U2 x o e), fun x e => s2.free e, ⟨H3, q3, fun x o _ e => sW _ _ (U3 x o e), fun x e => s3.free e, ⟨H4, q4, fun x o _ e => sW _ _ (U4 x o e), fun x e => s4.free e, ⟨H5, q5, fun x o _ e => sW _ _ (U5 x o e), fun x e => s5.free e, ⟨H6, q6, fun x o _ e => sW _ _ (U6 x o e), fun x e => s6.free e, ⟨H7, q7, fun x o _ e => sW _ _ (U7 x o e), fun x e => s7.free e, ⟨H8, q8, fun x o _ e => sW _ _ (U8 x o e), fun x e => s8.free e, ⟨H9, q9, fun x o _ e => sW _ _ (U9 x o e), fun x e => s9.free e, ⟨H10, q10, fun x o _ e => sW _ _ (U10 x o e), fun x e => s10.free e, ⟨H11, q11, fun x o _ e => sW _ _ (U11 x o e), fun x e => s11.free e, ⟨H12, q12, fun x o _ e => sW _ _ (U12 x o e), fun x e => s12.free e, ⟨H13, q13, fun x o _ e => sW _ _ (U13 x o e), fun x e => s13.free e, ⟨H14, q14, fun x o _ e => sW _ _ (U14 x o e), fun x e => s14.free e, ht⟩⟩⟩⟩⟩⟩⟩⟩⟩⟩⟩⟩⟩⟩ (sW _ _ et) fun v H' hk => k t v H' (j.fr fun y o _ e => ?_)
    rw [hk y (some_ne e)]
    exact sW _ _ (U1 _ _ (s1 _ _ e))
theorem lst9 {te0 te1 te2 te3 te4 te5 te6 te7 te8 : TE} {g : TG} {tz : TS} {D : Ends} {σ : L2.St} {H0 : Hp} (h : te0 σ H0 fun v0 H1 => te1 σ H1 fun v1 H2 => te2 σ H2 fun v2 H3 => te3 σ H3 fun v3 H4 => te4 σ H4 fun v4 H5 => te5 σ H5 fun v5 H6 => te6 σ H6 fun v6 H7 => te7 σ H7 fun v7 H8 => te8 σ H8 fun v8 H9 => [v0, v1, v2, v3, v4, v5, v6, v7, v8].length ≤ sizeLine ∧ ∀ p, H9 p = none → g (.ref p) σ (upd H9 p (.lst [v0, v1, v2, v3, v4, v5, v6, v7, v8])) (tz D)) : tSeq (tAsg (tLst (tCons te0 (tCons te1 (tCons te2 (tCons te3 (tCons te4 (tCons te5 (tCons te6 (tCons te7 (tCons te8 tNil)))))))))) g) tz D σ H0 := h
theorem made {m : Int} {a0 a1 : Option V} {rv due : V} {D : Ends} {tz : TS} {B HD : Hp} (sD : Same B HD) (R0 : D4 Z HD rv (dsD m)) (qd : D4 B HD due (dsD m)) (k : ∀ pm o0 o1 o2 o3 o4 o5 o6 o7 o8 H', JJ m K B H' due pm o0 o1 o2 o3 o4 o5 o6 o7 o8 → Same B H' → tz D [a0, a1, some (.int m), some rv, some due, some (.ref pm), none, none, none] H') :
    tSeq (tAsg (tLst (tCons (tMake (He.ga K "Safe") (sp_Safe K) [] E0 (tCons (tVar 3) tNil)) (tCons (tMake (He.ga K "Harmed") (sp_Harmed K) [] E0 (tCons (tVar 3) tNil)) (tCons (tMake (He.ga K "Bounded") (sp_Bounded K) [] E0 (tCons (tVar 2) (tCons (tVar 3) (tCons (tVar 3) (tCons (tVar 3) tNil))))) (tCons (tMake (He.ga K "Endless") (sp_Endless K) [] E0 (tCons (tVar 3) (tCons (tVar 3) (tCons (tVar 3) tNil)))) (tCons (tMake (He.ga K "Even") (sp_Even K) [] E0 (tCons (tVar 2) (tCons (tVar 3) tNil))) (tCons (tMake (He.ga K "Uneven") (sp_Uneven K) [] E0 (tCons (tVar 3) (tCons (tVar 3) tNil))) (tCons (tMake (He.ga K "Alike") (sp_Alike K) [] E0 (tCons (tVar 3) tNil)) (tCons (tMake (He.ga K "Unlike") (sp_Unlike K) [] E0 (tCons (tVar 3) tNil)) (tCons (tMake (He.ga K "Least") (sp_Least K) [] E0 (tCons (tTup (tCons (tC (.int 2)) (tCons (tC (.int 2)) tNil))) (tCons (tVar 3) tNil))) tNil)))))))))) (gName 5)) tz D [a0, a1, some (.int m), some rv, some due, none, none, none, none] HD := by
  refine lst9 ?_
  refine make_Safe (m := m) (B := B) (σ := [a0, a1, some (.int m), some rv, some due, none, none, none, none]) (H0 := HD) (rv := rv) sD R0 rfl fun o0 G0 g0 j0 => ?_
  have S_1 : Same B G0 := sD.trans g0
  have R1 : D4 Z G0 rv (dsD m) := R0.same g0
  refine make_Harmed (m := m) (B := B) (σ := [a0, a1, some (.int m), some rv, some due, none, none, none, none]) (H0 := G0) (rv := rv) S_1 R1 rfl fun o1 G1 g1 j1 => ?_
  have S_2 : Same B G1 := S_1.trans g1
  have R2 : D4 Z G1 rv (dsD m) := R1.same g1
  refine make_Bounded (m := m) (B := B) (σ := [a0, a1, some (.int m), some rv, some due, none, none, none, none]) (H0 := G1) (rv := rv) S_2 R2 rfl rfl fun o2 G2 g2 j2 => ?_
  have S_3 : Same B G2 := S_2.trans g2
  have R3 : D4 Z G2 rv (dsD m) := R2.same g2
  refine make_Endless (m := m) (B := B) (σ := [a0, a1, some (.int m), some rv, some due, none, none, none, none]) (H0 := G2) (rv := rv) S_3 R3 rfl fun o3 G3 g3 j3 => ?_
  have S_4 : Same B G3 := S_3.trans g3
  have R4 : D4 Z G3 rv (dsD m) := R3.same g3
  refine make_Even (m := m) (B := B) (σ := [a0, a1, some (.int m), some rv, some due, none, none, none, none]) (H0 := G3) (rv := rv) S_4 R4 rfl rfl fun o4 G4 g4 j4 => ?_
  have S_5 : Same B G4 := S_4.trans g4
  have R5 : D4 Z G4 rv (dsD m) := R4.same g4
  refine make_Uneven (m := m) (B := B) (σ := [a0, a1, some (.int m), some rv, some due, none, none, none, none]) (H0 := G4) (rv := rv) S_5 R5 rfl fun o5 G5 g5 j5 => ?_
  have S_6 : Same B G5 := S_5.trans g5
  have R6 : D4 Z G5 rv (dsD m) := R5.same g5
  refine make_Alike (m := m) (B := B) (σ := [a0, a1, some (.int m), some rv, some due, none, none, none, none]) (H0 := G5) (rv := rv) S_6 R6 rfl fun o6 G6 g6 j6 => ?_
  have S_7 : Same B G6 := S_6.trans g6
  have R7 : D4 Z G6 rv (dsD m) := R6.same g6
  refine make_Unlike (m := m) (B := B) (σ := [a0, a1, some (.int m), some rv, some due, none, none, none, none]) (H0 := G6) (rv := rv) S_7 R7 rfl fun o7 G7 g7 j7 => ?_
  have S_8 : Same B G7 := S_7.trans g7
  have R8 : D4 Z G7 rv (dsD m) := R7.same g7
  refine make_Least (m := m) (B := B) (σ := [a0, a1, some (.int m), some rv, some due, none, none, none, none]) (H0 := G7) (rv := rv) S_8 R8 rfl fun o8 G8 g8 j8 => ?_
  have S_9 : Same B G8 := S_8.trans g8
  have R9 : D4 Z G8 rv (dsD m) := R8.same g8
  refine ⟨(by show 9 ≤ sizeLine; decide), fun pm hpm => ?_⟩
  have Sp : Same G8 (upd G8 pm (.lst [V.ref o0, V.ref o1, V.ref o2, V.ref o3, V.ref o4, V.ref o5, V.ref o6, V.ref o7, V.ref o8])) := same_new hpm
  have V8 : Same G8 (upd G8 pm (.lst [V.ref o0, V.ref o1, V.ref o2, V.ref o3, V.ref o4, V.ref o5, V.ref o6, V.ref o7, V.ref o8])) := Sp
  have V7 : Same G7 (upd G8 pm (.lst [V.ref o0, V.ref o1, V.ref o2, V.ref o3, V.ref o4, V.ref o5, V.ref o6, V.ref o7, V.ref o8])) := g8.trans V8
  have V6 : Same G6 (upd G8 pm (.lst [V.ref o0, V.ref o1, V.ref o2, V.ref o3, V.ref o4, V.ref o5, V.ref o6, V.ref o7, V.ref o8])) := g7.trans V7
  have V5 : Same G5 (upd G8 pm (.lst [V.ref o0, V.ref o1, V.ref o2, V.ref o3, V.ref o4, V.ref o5, V.ref o6, V.ref o7, V.ref o8])) := g6.trans V6
  have V4 : Same G4 (upd G8 pm (.lst [V.ref o0, V.ref o1, V.ref o2, V.ref o3, V.ref o4, V.ref o5, V.ref o6, V.ref o7, V.ref o8])) := g5.trans V5
  have V3 : Same G3 (upd G8 pm (.lst [V.ref o0, V.ref o1, V.ref o2, V.ref o3, V.ref o4, V.ref o5, V.ref o6, V.ref o7, V.ref o8])) := g4.trans V4
  have V2 : Same G2 (upd G8 pm (.lst [V.ref o0, V.ref o1, V.ref o2, V.ref o3, V.ref o4, V.ref o5, V.ref o6, V.ref o7, V.ref o8])) := g3.trans V3
  have V1 : Same G1 (upd G8 pm (.lst [V.ref o0, V.ref o1, V.ref o2, V.ref o3, V.ref o4, V.ref o5, V.ref o6, V.ref o7, V.ref o8])) := g2.trans V2
  have V0 : Same G0 (upd G8 pm (.lst [V.ref o0, V.ref o1, V.ref o2, V.ref o3, V.ref o4, V.ref o5, V.ref o6, V.ref o7, V.ref o8])) := g1.trans V1
  have J : JJ m K B _ due pm o0 o1 o2 o3 o4 o5 o6 o7 o8 := ⟨qd.same (g0.trans V0), S_9.free hpm, upd_same, j0.fr (Same.fr V0), j1.fr (Same.fr V1), j2.fr (Same.fr V2), j3.fr (Same.fr V3), j4.fr (Same.fr V4), j5.fr (Same.fr V5), j6.fr (Same.fr V6), j7.fr (Same.fr V7), j8.fr (Same.fr V8)⟩
  exact k pm o0 o1 o2 o3 o4 o5 o6 o7 o8 _ J (S_9.trans Sp)
theorem lt0 {α : Type} {l : List α} (h : Nat.ble l.length 1000 = true := by rfl) : l.length ≤ 1000 := Nat.le_of_ble_eq_true h
theorem rows_ev {m : Int} {σ : L2.St} (e2 : σ[2]? = some (some (.int m))) : EvN (tLst (tCons (tLst (tCons (tC (.str "a")) (tCons (tVar 2) tNil))) (tCons (tTup (tCons (tLst (tCons (tC (.str "b")) tNil)) (tCons (tC .non) tNil))) (tCons (tTup (tCons (tTup (tCons (tLst (tCons (tC (.str "c")) tNil)) tNil)) (tCons (tLst (tCons (tLst (tCons (tC (.int 3)) tNil)) tNil)) tNil))) tNil)))) σ 4 (.list (dsD m)) :=
  evn_lst (evn_cons (evn_lst (evn_cons (evn_c rfl) (evn_cons (evn_var e2 rfl) evn_nil)) lt0) (evn_cons (evn_tup (evn_cons (evn_lst (evn_cons (evn_c rfl) evn_nil) lt0) (evn_cons (evn_c rfl) evn_nil)) lt0)
    (evn_cons (evn_tup (evn_cons (evn_tup (evn_cons (evn_lst (evn_cons (evn_c rfl) evn_nil) lt0) evn_nil) lt0) (evn_cons (evn_lst (evn_cons (evn_lst (evn_cons (evn_c rfl) evn_nil) lt0) evn_nil) lt0) evn_nil)) lt0) evn_nil))) lt0
theorem par_ev {m : Int} {σ : L2.St} {H : Hp} {D : Ends} {te tf : TE} (h1 : EvN te σ 4 (.list (dsD m))) (h2 : EvN tf σ 4 (.list (dsD m))) (k : ∀ rv B due HD, Same H B → D4 H B rv (dsD m) → Same B HD → D4 B HD due (dsD m) → D.nx ((σ.set 3 (some rv)).set 4 (some due)) HD) : tPar 3 4 (tCons te (tCons tf tNil)) D σ H :=
  h1 H _ fun rv B sB qr => h2 B _ fun due HD sD qd => ⟨rv, due, rfl, k rv B due HD sB qr sD qd⟩
def spLaw (K : PySem.W.Frag) : Sp := fun vs H Q _ => ∃ (a : Addr) (ns : List Int), vs = [.ref a] ∧ SqL K H a (ns.map V.int) ∧ ns.length ≤ 63 ∧ ∀ H', Q (.bl true) H'
theorem sc_law : FnScope ["_law_script", "_law_bag_here", "_law_most", "_law_rows", "_law_due", "_law_made", "_law_again", "_law_told", "_law_one"] ["_law_script"] (defScope s_law) := ⟨rfl, rfl, rfl, by decide +kernel, rfl, by decide +kernel, by decide +kernel⟩
theorem ok_law {fd : FuncData} (F : FunD K "law" "law" (defArgs s_law) (defBody s_law) (defScope s_law) [] [] (He.ga K "law") fd) (kt : Kit P w K mg base) : FnOk P w K mg base CX0 8 (He.ga K "law") fd ["_law_script"] (spLaw K) := by
  obtain ⟨fb, OB, QB⟩ := kt.ob
  obtain ⟨ft, OT, QT⟩ := kt.ot
  obtain ⟨fs, OS, QS⟩ := kt.os
  obtain ⟨fSafe, ISafe, JSafe⟩ := kt.i_Safe
  obtain ⟨fHarmed, IHarmed, JHarmed⟩ := kt.i_Harmed
  obtain ⟨fBounded, IBounded, JBounded⟩ := kt.i_Bounded
  obtain ⟨fEndless, IEndless, JEndless⟩ := kt.i_Endless
  obtain ⟨fEven, IEven, JEven⟩ := kt.i_Even
  obtain ⟨fUneven, IUneven, JUneven⟩ := kt.i_Uneven
  obtain ⟨fAlike, IAlike, JAlike⟩ := kt.i_Alike
  obtain ⟨fUnlike, IUnlike, JUnlike⟩ := kt.i_Unlike
  obtain ⟨fLeast, ILeast, JLeast⟩ := kt.i_Least
  obtain ⟨fSafetable, OSafe_table, QSafe_table⟩ := kt.o_Safe_table
  obtain ⟨fHarmedevents, OHarmed_events, QHarmed_events⟩ := kt.o_Harmed_events
  obtain ⟨fBoundedevents, OBounded_events, QBounded_events⟩ := kt.o_Bounded_events
  obtain ⟨fBoundedstandings, OBounded_standings, QBounded_standings⟩ := kt.o_Bounded_standings
  obtain ⟨fBoundedheights, OBounded_heights, QBounded_heights⟩ := kt.o_Bounded_heights
  obtain ⟨fEndlesslead, OEndless_lead, QEndless_lead⟩ := kt.o_Endless_lead
  obtain ⟨fEndlessring, OEndless_ring, QEndless_ring⟩ := kt.o_Endless_ring
  obtain ⟨fEndlesstail, OEndless_tail, QEndless_tail⟩ := kt.o_Endless_tail
  obtain ⟨fEvenevents, OEven_events, QEven_events⟩ := kt.o_Even_events
  obtain ⟨fUnevenlead, OUneven_lead, QUneven_lead⟩ := kt.o_Uneven_lead
  obtain ⟨fUnevenring, OUneven_ring, QUneven_ring⟩ := kt.o_Uneven_ring
  obtain ⟨fAlikepairs, OAlike_pairs, QAlike_pairs⟩ := kt.o_Alike_pairs
  obtain ⟨fUnlikeheard, OUnlike_heard, QUnlike_heard⟩ := kt.o_Unlike_heard
  obtain ⟨fLeastfoes, OLeast_foes, QLeast_foes⟩ := kt.o_Least_foes
  refine F.ok sc_law (fun vs H Q E h => ?_) (fun cdv A outer s H vs Q E hr h => ?_)
  · obtain ⟨a, ns, rfl, _⟩ := h
    rfl
  · obtain ⟨a, ns, rfl, hS, hlen, Qk⟩ := h
    refine ⟨_, PSs.nox (pss_cons (ps_set (i := 1) sc_law.nd rfl (Or.inl rfl) (pe_call OB (hr.mono (by decide)) rfl kt.gb kt.kb QB .nil pass0 (pa_cons (pv 0) pa_nil)))
      (pss_cons (ps_set (i := 2) sc_law.nd rfl (Or.inl rfl) (pe_call OT (hr.mono (by decide)) rfl kt.gt kt.kt QT .nil pass0 (pa_cons (pv 1) (pa_cons pe_int pa_nil))))
      (pss_cons (ps_par (i := 3) (j := 4) rfl sc_law.nd rfl rfl (by decide) rfl rfl (pa_cons (pe_lst (pa_cons (pe_lst (pa_cons pe_str (pa_cons (pv 2) pa_nil))) (pa_cons (pe_tup (pa_cons (pe_lst (pa_cons pe_str pa_nil)) (pa_cons pe_non pa_nil))) (pa_cons (pe_tup (pa_cons (pe_tup (pa_cons (pe_lst (pa_cons pe_str pa_nil)) pa_nil)) (pa_cons (pe_lst (pa_cons (pe_lst (pa_cons pe_int pa_nil)) pa_nil)) pa_nil))) pa_nil)))) (pa_cons (pe_lst (pa_cons (pe_lst (pa_cons pe_str (pa_cons (pv 2) pa_nil))) (pa_cons (pe_tup (pa_cons (pe_lst (pa_cons pe_str pa_nil)) (pa_cons pe_non pa_nil))) (pa_cons (pe_tup (pa_cons (pe_tup (pa_cons (pe_lst (pa_cons pe_str pa_nil)) pa_nil)) (pa_cons (pe_lst (pa_cons (pe_lst (pa_cons pe_int pa_nil)) pa_nil)) pa_nil))) pa_nil)))) pa_nil)) rfl)
      (pss_cons (ps_set (i := 5) sc_law.nd rfl (Or.inl rfl) (pe_lst (pa_cons (pe_make kt.k_Safe ISafe hr rfl kt.g_Safe JSafe .nil pass0 (pa_cons (pv 3) pa_nil)) (pa_cons (pe_make kt.k_Harmed IHarmed hr rfl kt.g_Harmed JHarmed .nil pass0 (pa_cons (pv 3) pa_nil)) (pa_cons (pe_make kt.k_Bounded IBounded hr rfl kt.g_Bounded JBounded .nil pass0 (pa_cons (pv 2) (pa_cons (pv 3) (pa_cons (pv 3) (pa_cons (pv 3) pa_nil))))) (pa_cons (pe_make kt.k_Endless IEndless hr rfl kt.g_Endless JEndless .nil pass0 (pa_cons (pv 3) (pa_cons (pv 3) (pa_cons (pv 3) pa_nil)))) (pa_cons (pe_make kt.k_Even IEven hr rfl kt.g_Even JEven .nil pass0 (pa_cons (pv 2) (pa_cons (pv 3) pa_nil))) (pa_cons (pe_make kt.k_Uneven IUneven hr rfl kt.g_Uneven JUneven .nil pass0 (pa_cons (pv 3) (pa_cons (pv 3) pa_nil))) (pa_cons (pe_make kt.k_Alike IAlike hr rfl kt.g_Alike JAlike .nil pass0 (pa_cons (pv 3) pa_nil)) (pa_cons (pe_make kt.k_Unlike IUnlike hr rfl kt.g_Unlike JUnlike .nil pass0 (pa_cons (pv 3) pa_nil)) (pa_cons (pe_make kt.k_Least ILeast hr rfl kt.g_Least JLeast .nil pass0 (pa_cons (pe_tup (pa_cons pe_int (pa_cons pe_int pa_nil))) (pa_cons (pv 3) pa_nil))) pa_nil)))))))))))
      (pss_cons (ps_expr (pe_bm PySem.F.plainAttrs_list PySem.F.slot_list_append PySem.F.type_list_append mt_append (pe_ix ix_list (pv 3) pe_int (fun _ _ => rfl)) (pa_cons pe_int pa_nil)))
      (pss_cons (ps_expr (pe_bm0 PySem.F.plainAttrs_list PySem.F.slot_list_clear PySem.F.type_list_clear mt_clear (pe_ix ix_tup (pe_ix ix_list (pv 3) pe_int (fun _ _ => rfl)) pe_int (fun _ _ => rfl))))
      (pss_cons (ps_expr (pe_bm PySem.F.plainAttrs_list PySem.F.slot_list_append PySem.F.type_list_append mt_append (pe_ix ix_tup (pe_ix ix_tup (pe_ix ix_list (pv 3) pe_int (fun _ _ => rfl)) pe_int (fun _ _ => rfl)) pe_int (fun _ _ => rfl)) (pa_cons pe_int pa_nil)))
      (pss_cons (ps_expr (pe_bm PySem.F.plainAttrs_list PySem.F.slot_list_append PySem.F.type_list_append mt_append (pe_ix ix_list (pe_ix ix_tup (pe_ix ix_list (pv 3) pe_int (fun _ _ => rfl)) pe_int (fun _ _ => rfl)) pe_int (fun _ _ => rfl)) (pa_cons pe_int pa_nil)))
      (pss_cons (ps_for PassesOwn.never rfl (pi_range1 rfl kt.rg (pa_cons pe_int pa_nil)) (pg_name (i := 6) sc_law.nd rfl (Or.inl rfl)) (pss_cons (ps_set (i := 7) sc_law.nd rfl (Or.inl rfl) (pe_lst (pa_cons (pe_meth0 (pe_ix ix_list (pv 5) pe_int (fun _ _ => rfl)) kt.c_Safe kt.m_Safe_table OSafe_table (hr.mono (by decide)) QSafe_table .nil pass0) (pa_cons (pe_meth0 (pe_ix ix_list (pv 5) pe_int (fun _ _ => rfl)) kt.c_Harmed kt.m_Harmed_events OHarmed_events (hr.mono (by decide)) QHarmed_events .nil pass0) (pa_cons (pe_meth0 (pe_ix ix_list (pv 5) pe_int (fun _ _ => rfl)) kt.c_Bounded kt.m_Bounded_events OBounded_events (hr.mono (by decide)) QBounded_events .nil pass0) (pa_cons (pe_meth0 (pe_ix ix_list (pv 5) pe_int (fun _ _ => rfl)) kt.c_Bounded kt.m_Bounded_standings OBounded_standings (hr.mono (by decide)) QBounded_standings .nil pass0) (pa_cons (pe_meth0 (pe_ix ix_list (pv 5) pe_int (fun _ _ => rfl)) kt.c_Bounded kt.m_Bounded_heights OBounded_heights (hr.mono (by decide)) QBounded_heights .nil pass0) (pa_cons (pe_meth0 (pe_ix ix_list (pv 5) pe_int (fun _ _ => rfl)) kt.c_Endless kt.m_Endless_lead OEndless_lead (hr.mono (by decide)) QEndless_lead .nil pass0) (pa_cons (pe_meth0 (pe_ix ix_list (pv 5) pe_int (fun _ _ => rfl)) kt.c_Endless kt.m_Endless_ring OEndless_ring (hr.mono (by decide)) QEndless_ring .nil pass0) (pa_cons (pe_meth0 (pe_ix ix_list (pv 5) pe_int (fun _ _ => rfl)) kt.c_Endless kt.m_Endless_tail OEndless_tail (hr.mono (by decide)) QEndless_tail .nil pass0) (pa_cons (pe_meth0 (pe_ix ix_list (pv 5) pe_int (fun _ _ => rfl)) kt.c_Even kt.m_Even_events OEven_events (hr.mono (by decide)) QEven_events .nil pass0) (pa_cons (pe_meth0 (pe_ix ix_list (pv 5) pe_int (fun _ _ => rfl)) kt.c_Uneven kt.m_Uneven_lead OUneven_lead (hr.mono (by decide)) QUneven_lead .nil pass0) (pa_cons (pe_meth0 (pe_ix ix_list (pv 5) pe_int (fun _ _ => rfl)) kt.c_Uneven kt.m_Uneven_ring OUneven_ring (hr.mono (by decide)) QUneven_ring .nil pass0) (pa_cons (pe_meth0 (pe_ix ix_list (pv 5) pe_int (fun _ _ => rfl)) kt.c_Alike kt.m_Alike_pairs OAlike_pairs (hr.mono (by decide)) QAlike_pairs .nil pass0) (pa_cons (pe_meth0 (pe_ix ix_list (pv 5) pe_int (fun _ _ => rfl)) kt.c_Unlike kt.m_Unlike_heard OUnlike_heard (hr.mono (by decide)) QUnlike_heard .nil pass0) (pa_cons (pe_meth0 (pe_ix ix_list (pv 5) pe_int (fun _ _ => rfl)) kt.c_Least kt.m_Least_foes OLeast_foes (hr.mono (by decide)) QLeast_foes .nil pass0) pa_nil))))))))))))))))
      (pss_cons (ps_if (pt_not (pt_val (pe_call OS (hr.mono (by decide)) rfl kt.gs kt.ks QS .nil pass0 (pa_cons (pv 7) (pa_cons (pe_op op_rep (pe_lst (pa_cons (pv 4) pa_nil)) pe_int) pa_nil))))) (pss_one (ps_ret pe_bl)) pss_nil)
      (pss_one (ps_for PassesOwn.never rfl (pi_list (pv 7)) (pg_name (i := 8) sc_law.nd rfl (Or.inl rfl)) (pss_cons (ps_expr (pe_bm PySem.F.plainAttrs_list PySem.F.slot_list_append PySem.F.type_list_append mt_append (pe_ix ix_list (pv 8) pe_int (fun _ _ => rfl)) (pa_cons pe_int pa_nil)))
      (pss_cons (ps_expr (pe_bm PySem.F.plainAttrs_list PySem.F.slot_list_append PySem.F.type_list_append mt_append (pe_ix ix_tup (pe_ix ix_list (pv 8) pe_int (fun _ _ => rfl)) pe_int (fun _ _ => rfl)) (pa_cons pe_int pa_nil)))
      (pss_cons (ps_expr (pe_bm0 PySem.F.plainAttrs_list PySem.F.slot_list_clear PySem.F.type_list_clear mt_clear (pe_ix ix_tup (pe_ix ix_tup (pe_ix ix_list (pv 8) pe_int (fun _ _ => rfl)) pe_int (fun _ _ => rfl)) pe_int (fun _ _ => rfl))))
      (pss_cons (ps_expr (pe_bm PySem.F.plainAttrs_list PySem.F.slot_list_append PySem.F.type_list_append mt_append (pe_ix ix_list (pe_ix ix_tup (pe_ix ix_list (pv 8) pe_int (fun _ _ => rfl)) pe_int (fun _ _ => rfl)) pe_int (fun _ _ => rfl)) (pa_cons pe_int pa_nil)))
      (pss_one (ps_expr (pe_bm PySem.F.plainAttrs_list PySem.F.slot_list_append PySem.F.type_list_append mt_append (pv 8) (pa_cons pe_non pa_nil)))))))))))))
      (pss_one (ps_ret pe_bl))))))))))), ?_⟩
    refine ⟨_, rfl, a, ns, rfl, hS, hlen, fun H1 p c n x s1 hp hc hn B1 => ?_⟩
    refine ⟨_, rfl, p, c, n, 0, 0, x, 0, 50, rfl, B1, by decide, by decide, by decide, fun H2 m i' r' x' k' B2 _ h0 h1 _ _ => ?_⟩
    refine par_ev (m := m) (σ := [some (.ref a), some (.ref p), some (.int m), none, none, none, none, none, none]) (H := H2) (rows_ev rfl) (rows_ev rfl) fun rv B due HD sB qr sD qd => ?_
    obtain ⟨pp, pa, t1, pb, t2, t3, pc, pq, pe, SH⟩ := shape qr
    have R0 : D4 Z HD rv (dsD m) := qr.z.same sD
    refine made sD R0 qd fun pm o0 o1 o2 o3 o4 o5 o6 o7 o8 HJ J sJ => ?_
    refine mut_rows SH sJ rfl fun HM hM => ?_
    have J := J.fr (Kp.fr hM)
    refine ⟨2, rfl, by decide, by decide, for_range (lo := 0) (n := 2) (fun i σ H => ∃ v6 v7 v8, σ = [some (.ref a), some (.ref p), some (.int m), some rv, some due, some (.ref pm), v6, v7, v8] ∧ JJ m K B H due pm o0 o1 o2 o3 o4 o5 o6 o7 o8) ⟨none, none, none, rfl, J⟩ ?_ ?_⟩
    · rintro i σ H hi ⟨v6, v7, v8, rfl, J⟩
      exact turn J fun t v H' J' => ⟨_, _, _, rfl, J'⟩
    · rintro σ H ⟨v6, v7, v8, rfl, J⟩
      exact Qk H
end
theorem facts {P : Program} {w : World} {K : PySem.W.Frag} {h : Heap} {mg : Str → Option Value} {f : Addr} (X : K.In h) (G : h.Ns mainGlobals mg) (hfa : mg ("law" : Str) = some (.ref f)) (c : He.SaysD fa fn K) :
    ∃ fd : FuncData, (∀ (s : Shared) (v : Value), BindsTo s fd ⟨[v], []⟩ [("_law_script", v)]) ∧ ∀ base : Heap, K.In base → base.Ns mainGlobals mg → FnOk P w K mg base CX0 8 f fd ["_law_script"] (spLaw K) := by
  obtain ⟨fd, F⟩ := (c.def_ 31 (d := d_law) rfl)
  have e := hfa.symm.trans (He.glo_ok X G (c.fact 6 (f := .glo "law") rfl))
  cases e
  have b := FunD.bindsA (ps := ["_law_script"]) F fun _ _ _ _ _ _ us hl => match us, hl with | [_], _ => rfl
  exact ⟨fd, fun s v => b s [v] rfl, fun base _ _ => ok_law F (kit X G c)⟩
end K75
open PySem PySem.W PySem.Calls PyProof.Rows
theorem PySem.Challenge.cw_worntally_k75_lists_within_lists_holds : PySem.Challenge.rw_worntally_k75_lists_within_lists.Holds := by
  w_on; o_law
  refine HandSHeadRun.head_any (r := OpenLaw.row PySem.Challenge.rw_worntally_k75_lists_within_lists) (q := view (OpenLaw.row PySem.Challenge.rw_worntally_k75_lists_within_lists).prog [25]) (H := K75.hk) (ob := K75.ob) (M := 6000) (loose := K75.loose) (d := HandSHeadRun.topDef (OpenLaw.row PySem.Challenge.rw_worntally_k75_lists_within_lists).prog 25) (kwd := []) K75.ob_eq
    (by kernel_rfl) (fun s => by kernel_rfl) K75.run (by kernel_rfl) (by kernel_rfl) (by kernel_rfl) (by rfl) (by first | assumption | decide +kernel) (by decide +kernel) ⟨rfl, rfl, rfl, rfl, rfl, by decide +kernel⟩ ?hw ?hc
  case hw => w_witness2
  case hc =>
    refine L2.walk_ofE (l := PySem.Challenge.rw_worntally_k75_lists_within_lists) (n := 63) (k := 8) (x := "_law_script") (CX := L2.CX0) rfl (by decide) (by kernel_rfl) ⟨rfl, by decide, by decide⟩ ?F (fun _ _ _ _ z => z)
    intro w mg fa h Y G hmg0
    obtain ⟨K, KX, c⟩ := Y
    have hmg : mg ("law" : PySem.Str) = some (.ref fa) := by
      have e : (HandSHeadRun.topDef (OpenLaw.row PySem.Challenge.rw_worntally_k75_lists_within_lists).prog 25).name = ("law" : PySem.Str) := by kernel_rfl
      rw [← e]
      exact hmg0
    obtain ⟨fd, hb, hF⟩ := K75.facts (P := (PySem.Challenge.rw_worntally_k75_lists_within_lists).prog) (w := w) KX G hmg c
    exact ⟨K, fd, K75.spLaw K, KX, hb, fun H a ns hl _ hS => ⟨a, ns, rfl, hS, hl, fun _ => rfl⟩, hF⟩

