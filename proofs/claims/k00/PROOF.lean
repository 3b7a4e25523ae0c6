import PyProof.Rows.All
import Wide.All
import OpenK.AllK
import Wide.FinOn
import HandS.ForMost
import HandS.Defaults
import HandS.Flow
import HandS.ExcInit
import HandS.MakeKwOnly
import KE.KExcPX
import KE.KExcIs
import HandS.IsInst
import KE.KExcMake
import HandS.Lambda
import HandS.Nested
import HandS.HeadHook4
import HandS.HeadWalk
import HandS.EndTab
import HandS.NestedK
import HandS.Head0
import HandS.Head1
import HandS.Head2
import HandS.NoneIn
import HandS.Walk
import HandS.Deep
import HandS.EndBits
import PySem.Challenge.RW_tellback_k00_errors_made
set_option Elab.async false
set_option linter.all false
set_option maxRecDepth 100000
set_option maxHeartbeats 4000000
namespace TB
open PySem PySem.Spec PyProof.Rows L2
def top (i : Nat) : Stmt := PySem.Challenge.pw_tellback_k00_errors_made.main.body.getD i (.Pass ⟨0, 0, 0, 0⟩)
abbrev sStart : Stmt := top 55
abbrev sBelow : Stmt := top 56
abbrev sMixed : Stmt := top 57
abbrev FnP (K : PySem.W.Frag) (x : Str) (st : Stmt) (f : Addr) (fd : FuncData) : Prop := FunD K x x (defArgs st) (defBody st) (defScope st) [] [] f fd

/-! ### the spring of draws -/
structure Spr (H : Hp) (p l : Addr) (cs : List Int) (left n mix : Int) : Prop where
  hp : H p = some (.lst [.ref l, .int left, .int n, .int mix])
  hl : H l = some (.lst (cs.map V.int))
  ne : p ≠ l
  left0 : 0 ≤ left
  n0 : 0 ≤ n
  mix0 : 0 ≤ mix
  mix1 : mix < 2147483647
/-- a spring stands at p, its cells at l, n draws behind it -/
def SprAt (H : Hp) (p l : Addr) (n : Int) : Prop := ∃ cs left mix, Spr H p l cs left n mix
/-- nothing but p and l is another one -/
def Turned (p l : Addr) (H H' : Hp) : Prop := ∀ b o, b ≠ p → b ≠ l → H b = some o → H' b = some o
theorem Turned.refl (p l : Addr) (H : Hp) : Turned p l H H := fun _ _ _ _ e => e
theorem Turned.trans {p l : Addr} {H H1 H2 : Hp} (a : Turned p l H H1) (b : Turned p l H1 H2) : Turned p l H H2 := fun c o h1 h2 e => b c o h1 h2 (a c o h1 h2 e)

def spStart (K : PySem.W.Frag) : Sp := fun vs H Q _ => ∃ (a : Addr) (ns : List Int), vs = [.ref a] ∧ SqL K H a (ns.map V.int) ∧
  ∀ (p l : Addr) (H' : Hp), H l = none → H p = none → Same H H' → SprAt H' p l 0 → Q (.ref p) H'
def spBelow : Sp := fun vs H Q _ => ∃ (p l : Addr) (n many : Int), vs = [.ref p, .int many] ∧ SprAt H p l n ∧ 0 < many ∧ many < 1073741824 ∧ n < 1000000 ∧
  ∀ (d : Int) (H' : Hp), 0 ≤ d → d < many → Turned p l H H' → SprAt H' p l (n + 1) → Q (.int d) H'
section
variable {P : Program} {w : World} {K : PySem.W.Frag} {mg : Str → Option Value} {base : Heap} {f fB : Addr} {fd fdB : FuncData}
theorem scStart : FnScope ["script"] ["script"] (defScope sStart) := ⟨rfl, rfl, rfl, by decide +kernel, rfl, by decide +kernel, by decide +kernel⟩
theorem ok_start (F : FnP K "_law_start" sStart f fd) (mL : mg "list" = none) : FnOk P w K mg base CX0 1 f fd ["script"] (spStart K) := by
  refine F.ok scStart (fun vs H Q E h => ?_) (fun cdv A outer s H vs Q E hr h => ?_)
  · obtain ⟨a, ns, rfl, _⟩ := h
    rfl
  · obtain ⟨a, ns, rfl, hS, k⟩ := h
    refine ⟨_, PSs.nox (pss_one (ps_ret (pe_lst (pa_cons (pe_callTy call_list_of (by rfl) mL (by decide +kernel) (pa_cons (pv 0) pa_nil)) (pa_cons pe_int (pa_cons pe_int (pa_cons pe_int pa_nil))))))), ?_⟩
    refine ⟨_, rfl, a, _, rfl, .inl hS, fun l hl => ?_⟩
    refine ⟨(by show 4 ≤ sizeLine; decide), fun p hp => ?_⟩
    have npl : p ≠ l := fun q => by
      rw [q, upd_same] at hp
      cases hp
    have hp0 : H p = Option.none := by
      rw [upd_ne npl] at hp
      exact hp
    refine k p l _ hl hp0 (fun b o e => by rw [upd_ne (ne_of_none e hp0), upd_ne (ne_of_none e hl)]; exact e) ⟨ns, 0, 43, upd_same, by rw [upd_ne npl.symm, upd_same], npl, by decide, by decide, by decide, by decide⟩

theorem scBelow : FnScope ["stream", "many", "cell", "digit", "mixed"] ["stream", "many"] (defScope sBelow) := ⟨rfl, rfl, rfl, by decide +kernel, rfl, by decide +kernel, by decide +kernel⟩
theorem u64 {A : Around} {k : Nat} (hr : Room k A) : A.units + 64 < cLine := by
  have z := hr.un
  omega
/-- the four places of a spring's list -/
theorem at4 {α : Type} {a b c d v : α} {i : Nat} (h : [a, b, c, d][i]? = some v) : atI [a, b, c, d] (i : Int) = some v := atI_nat h
theorem Turned.put {p l : Addr} {H H1 : Hp} {o : HO} (t : Turned p l H H1) : Turned p l H (upd H1 p o) := fun b u h1 h2 e => by
  rw [upd_ne h1]
  exact t b u h1 h2 e
theorem Turned.putL {p l : Addr} {H H1 : Hp} {o : HO} (t : Turned p l H H1) : Turned p l H (upd H1 l o) := fun b u h1 h2 e => by
  rw [upd_ne h2]
  exact t b u h1 h2 e
theorem Turned.new {p l q : Addr} {H H1 : Hp} {o : HO} (t : Turned p l H H1) (n : H1 q = Option.none) : Turned p l H (upd H1 q o) := fun b u h1 h2 e => by
  have e1 := t b u h1 h2 e
  rw [upd_ne (ne_of_none e1 n)]
  exact e1
/-- the spring's list is written anew -/
theorem Spr.put {H : Hp} {p l : Addr} {cs : List Int} {left n mix left' n' mix' : Int} (S : Spr H p l cs left n mix) (h1 : 0 ≤ left') (h2 : 0 ≤ n') (h3 : 0 ≤ mix') (h4 : mix' < 2147483647) :
    Spr (upd H p (.lst [.ref l, .int left', .int n', .int mix'])) p l cs left' n' mix' := ⟨upd_same, by rw [upd_ne S.ne.symm]; exact S.hl, S.ne, h1, h2, h3, h4⟩
theorem Spr.putL {H : Hp} {p l : Addr} {cs : List Int} {left n mix : Int} (S : Spr H p l cs left n mix) (ds : List Int) : Spr (upd H l (.lst (ds.map V.int))) p l ds left n mix :=
  ⟨by rw [upd_ne S.ne]; exact S.hp, upd_same, S.ne, S.left0, S.n0, S.mix0, S.mix1⟩
theorem Spr.new {H : Hp} {p l q : Addr} {cs : List Int} {left n mix : Int} {o : HO} (S : Spr H p l cs left n mix) (e : H q = Option.none) : Spr (upd H q o) p l cs left n mix :=
  ⟨by rw [upd_ne (ne_of_none S.hp e)]; exact S.hp, by rw [upd_ne (ne_of_none S.hl e)]; exact S.hl, S.ne, S.left0, S.n0, S.mix0, S.mix1⟩
/-- a while whose ends all come to one word -/
theorem while_to {c : TT} {tb : TS} {D : Ends} {σ : L2.St} {H : Hp} (Pv Pend : L2.St → Hp → Prop) (μ : L2.St → Hp → Nat) (h0 : Pv σ H)
    (hs : ∀ σ H, Pv σ H → c σ H fun b H1 => if b = true then tb { D with nx := fun σ' H' => Pv σ' H' ∧ μ σ' H' < μ σ H, ct := fun σ' H' => Pv σ' H' ∧ μ σ' H' < μ σ H, bk := D.nx } σ H1 else Pend σ H1)
    (mono : ∀ σ H Q Q', (∀ b H1, Q b H1 → Q' b H1) → c σ H Q → c σ H Q') (hend : ∀ σ H, Pend σ H → D.nx σ H) : tWhile c tb D σ H :=
  while_by Pv μ h0 (fun σ H p => mono σ H _ _ (fun b H1 q => by
    cases b with
    | true => exact q
    | false => exact hend σ H1 q) (hs σ H p)) mono
def lenAt (H : Hp) (l : Addr) : Nat := match H l with
  | some (.lst xs) => xs.length
  | _ => 0
theorem lenAt_of {H : Hp} {l : Addr} {xs : List V} (h : H l = some (.lst xs)) : lenAt H l = xs.length := by
  unfold lenAt
  rw [h]
theorem lenLess {H H1 : Hp} {p l : Addr} {c : Int} {cs : List Int} {a b d a' b' d' : Int} (S : Spr H p l (c :: cs) a b d) (S1 : Spr H1 p l cs a' b' d') : lenAt H1 l < lenAt H l := by
  rw [lenAt_of S.hl, lenAt_of S1.hl, List.length_map, List.length_map, List.length_cons]
  omega
theorem intNil (K : PySem.W.Frag) (H : Hp) {q : Addr} (h : H q = some (.lst [])) : Dp K H (.ref q) (.list []) := .lst (SqL.of h) .nil
theorem intsAll (K : PySem.W.Frag) (H : Hp) : ∀ cs : List Int, DpAll K H (cs.map V.int) (cs.map PyData.int)
  | [] => .nil
  | c :: cs => .cons (.int c) (intsAll K H cs)
theorem canInts : ∀ cs : List Int, PyData.canLayAll0 (cs.map PyData.int) = true
  | [] => by simp only [List.map_nil, PyData.canLayAll0]
  | c :: cs => by
    simp only [List.map_cons, PyData.canLayAll0, PyData.canLay0, Bool.true_and]
    exact canInts cs
theorem depthInts : ∀ cs : List Int, PyData.depthAll (cs.map PyData.int) = 0
  | [] => by simp only [List.map_nil, PyData.depthAll]
  | c :: cs => by
    simp only [List.map_cons, PyData.depthAll, PyData.depth]
    rw [depthInts cs]
    rfl
theorem shapedInts (cs : List Int) : SeqAt.shaped (.list (cs.map PyData.int)) = true := by
  have h1 : PyData.canLay0 (.list (cs.map PyData.int)) = true := by
    simp only [PyData.canLay0]
    exact canInts cs
  have h2 : PyData.depth (.list (cs.map PyData.int)) ≤ 64 := by
    simp only [PyData.depth]
    rw [depthInts]
    decide
  unfold SeqAt.shaped
  rw [h1, decide_eq_true h2]
  rfl
theorem eqvNil (cs : List Int) : PyData.eqv (.list (cs.map PyData.int)) (.list []) = cs.isEmpty := by
  cases cs <;> simp [PyData.eqv, PyData.eqvAll]
theorem ok_below (F : FnP K "_law_below" sBelow f fd) (mI : mg "int" = none) : FnOk P w K mg base CX0 1 f fd ["stream", "many"] spBelow := by
  refine F.ok scBelow (fun vs H Q E h => ?_) (fun cdv A outer s H vs Q E hr h => ?_)
  · obtain ⟨p, l, n, many, rfl, _⟩ := h
    rfl
  · obtain ⟨p, l, n, many, rfl, hS, hm0, hm1, hn, k⟩ := h
    have nd := scBelow.nd
    refine ⟨_, PSs.nox (pss_cons (ps_asg (pe_op op_add (pe_ix ix_list (pv 0) pe_int (fun _ _ => rfl)) pe_int) (pg_sub (pv 0) pe_int set_list))
      (pss_cons (ps_while PassesOwn.never (PW.pt (pw_and (pt_cmpR op_eq (pe_ix ix_list (pv 0) pe_int (fun _ _ => rfl)) pe_int (nomark _)) (pw_and1 (pt_cmpR (op_neD (u64 hr)) (pe_ix ix_list (pv 0) pe_int (fun _ _ => rfl)) (pe_lst pa_nil) (nomark _)))))
        (pss_cons (ps_set (i := 2) nd rfl (Or.inl rfl) (pe_bm PySem.F.plainAttrs_list PySem.F.slot_list_pop PySem.F.type_list_pop mt_popAt (pe_ix ix_list (pv 0) pe_int (fun _ _ => rfl)) (pa_cons pe_int pa_nil)))
        (pss_cons (ps_asg (pe_op op_mod (pe_callTy call_int1 (by rfl) mI (by decide +kernel) (pa_cons (pe_op op_add (pe_op op_add (pe_op op_mul (pe_ix ix_list (pv 0) pe_int (fun _ _ => rfl)) pe_int) (pv 2)) pe_int) pa_nil)) pe_int) (pg_sub (pv 0) pe_int set_list))
        (pss_one (ps_asg (pe_ifExp (pt_cmpR op_ge (pv 2) (pe_op op_pow pe_int pe_int) (nomark _)) (pv 2) pe_int) (pg_sub (pv 0) pe_int set_list))))))
      (pss_cons (ps_if (pt_cmpR op_gt (pe_ix ix_list (pv 0) pe_int (fun _ _ => rfl)) pe_int (nomark _))
        (pss_cons (ps_set (i := 3) nd rfl (Or.inl rfl) (pe_op op_mod (pe_callTy call_int1 (by rfl) mI (by decide +kernel) (pa_cons (pe_ix ix_list (pv 0) pe_int (fun _ _ => rfl)) pa_nil)) (pv 1)))
        (pss_cons (ps_asg (pe_op op_fdiv (pe_ix ix_list (pv 0) pe_int (fun _ _ => rfl)) (pv 1)) (pg_sub (pv 0) pe_int set_list))
        (pss_one (ps_ret (pv 3)))))
        pss_nil)
      (pss_cons (ps_set (i := 4) nd rfl (Or.inl rfl) (pe_op op_mod (pe_callTy call_int1 (by rfl) mI (by decide +kernel) (pa_cons (pe_op op_pow (pe_op op_add (pe_op op_add (pe_ix ix_list (pv 0) pe_int (fun _ _ => rfl)) (pe_op op_mul pe_int (pe_ix ix_list (pv 0) pe_int (fun _ _ => rfl)))) pe_int) pe_int) pa_nil)) pe_int))
      (pss_one (ps_ret (pe_op op_mod (pe_op op_mod (pe_callTy call_int1 (by rfl) mI (by decide +kernel) (pa_cons (pe_op op_pow (pe_op op_add (pe_op op_add (pe_op op_mul (pv 4) pe_int) (pe_op op_mul pe_int (pe_ix ix_list (pv 0) pe_int (fun _ _ => rfl)))) pe_int) pe_int) pa_nil)) pe_int) (pv 1)))))))), ?_⟩
    obtain ⟨cs, left, mix, S⟩ := hS
    -- stream[2] = stream[2] + 1
    refine ⟨_, rfl, p, _, 2, _, rfl, rfl, SqL.of S.hp, atI_nat (j := 2) rfl, _, _, rfl, rfl, ?_⟩
    refine ⟨_, rfl, p, _, 2, 2, rfl, rfl, S.hp, rfl, ?_⟩
    have S1 : Spr (upd H p (.lst [.ref l, .int left, .int (n + 1), .int mix])) p l cs left (n + 1) mix := S.put S.left0 (by have := S.n0; omega) S.mix0 S.mix1
    have T1 : Turned p l H (upd H p (.lst [.ref l, .int left, .int (n + 1), .int mix])) := (Turned.refl p l H).put
    refine while_to (fun σ H' => ∃ cs left mix c, σ = [some (.ref p), some (.int many), c, none, none] ∧ Turned p l H H' ∧ Spr H' p l cs left (n + 1) mix) (fun σ H' => ∃ cs left mix c, σ = [some (.ref p), some (.int many), c, none, none] ∧ Turned p l H H' ∧ Spr H' p l cs left (n + 1) mix) (fun _ H' => lenAt H' l) ⟨cs, left, mix, none, rfl, T1, S1⟩ ?_ ?_ ?_
    · rintro σ H1 ⟨cs, left, mix, c, rfl, T, S⟩
      refine ⟨_, rfl, p, _, 1, _, rfl, rfl, SqL.of S.hp, atI_nat (j := 1) rfl, rfl, _, rfl, ?_⟩
      refine ite2 (fun hz => ?_) (fun hz => ?_)
      · refine ⟨_, rfl, p, _, 0, _, rfl, rfl, SqL.of S.hp, atI_nat (j := 0) rfl, by show 0 ≤ sizeLine; decide, fun q hq => ?_⟩
        have S2 := S.new (o := .lst []) hq
        have T2 := T.new (o := .lst []) hq
        refine ⟨_, _, .lst (SqL.of S2.hl) (intsAll K _ cs), .lst (SqL.of upd_same) .nil, shapedInts cs, shapedInts [], _, rfl, ?_⟩
        rw [eqvNil]
        cases cs with
        | nil => exact iteF ⟨[], left, mix, c, rfl, T2, S2⟩
        | cons cell cs =>
          refine iteT ?_
          -- cell = stream[0].pop(0)
          refine ⟨_, rfl, p, _, 0, _, rfl, rfl, SqL.of S2.hp, atI_nat (j := 0) rfl, .inl ⟨rfl, _, SqL.of S2.hl⟩, l, _, 0, 0, _, rfl, rfl, S2.hl, by decide, by decide, ?_, rfl, ?_⟩
          · exact seqIndex_of (by decide) (by rw [List.length_map, List.length_cons]; omega)
          have S3 := S2.putL cs
          have T3 := T2.putL (o := .lst (cs.map V.int))
          -- stream[3] = int(stream[3] * 69031 + cell + 13) % 2147483647
          refine ⟨_, rfl, p, _, 3, _, rfl, rfl, SqL.of S3.hp, atI_nat (j := 3) rfl, _, _, rfl, rfl, .inr ⟨by decide, by decide⟩, _, rfl, _, _, rfl, rfl, _, _, rfl, rfl, .inl ⟨_, rfl, _, _, rfl, rfl, (by show (0 : Int) < 2147483647; decide), ?_⟩⟩
          refine ⟨_, rfl, p, _, 3, 3, rfl, rfl, S3.hp, rfl, ?_⟩
          have S4 := S3.put S3.left0 S3.n0 (Int.emod_nonneg (mix * 69031 + cell + 13) (by decide : (2147483647 : Int) ≠ 0)) (Int.emod_lt_of_pos (mix * 69031 + cell + 13) (by decide : (0 : Int) < 2147483647))
          have T4 := T3.put (o := .lst [.ref l, .int left, .int (n + 1), .int ((mix * 69031 + cell + 13) % 2147483647)])
          -- stream[1] = cell if cell >= 10 ** 18 else 0
          refine ⟨_, rfl, _, _, rfl, rfl, ⟨by decide, by decide, by decide⟩, _, _, rfl, rfl, _, rfl, ?_⟩
          refine ite2 (fun hc => ?_) (fun hc => ?_)
          · refine ⟨_, rfl, _, rfl, p, _, 1, 1, rfl, rfl, S4.hp, rfl, ?_⟩
            have hc1 : (10 : Int) ^ (18 : Int).toNat ≤ cell := of_decide_eq_true hc
            have hc0 : (0 : Int) ≤ cell := Int.le_trans (by decide) hc1
            have S5 := S4.put (left' := cell) hc0 S4.n0 S4.mix0 S4.mix1
            refine ⟨⟨cs, cell, _, _, rfl, T4.put, S5⟩, ?_⟩
            exact lenLess S S5
          · refine ⟨_, rfl, p, _, 1, 1, rfl, rfl, S4.hp, rfl, ?_⟩
            have S5 := S4.put (left' := 0) (by decide) S4.n0 S4.mix0 S4.mix1
            refine ⟨⟨cs, 0, _, _, rfl, T4.put, S5⟩, ?_⟩
            exact lenLess S S5
      · exact iteF ⟨cs, left, mix, c, rfl, T, S⟩
    · rintro σ H1 Q1 Q2 hQ ⟨v, e0, p1, xs, i, v2, e1, e2, e3, e4, sc, b, eb, h⟩
      refine ⟨v, e0, p1, xs, i, v2, e1, e2, e3, e4, sc, b, eb, ?_⟩
      cases b with
      | false => exact iteF (hQ _ _ (by simpa using h))
      | true =>
        obtain ⟨v', e0', p1', xs', i', v2', e1', e2', e3', e4', ez, h'⟩ := (by simpa using h : tTest (tOp (rNeD _) (tOp (rIxL _) (tVar 0) (tC (.int 0))) (tLst tNil)) σ H1 Q1)
        refine iteT ⟨v', e0', p1', xs', i', v2', e1', e2', e3', e4', ez, fun q hq => ?_⟩
        obtain ⟨d, e, d1, d2, d3, d4, b', eb', h2⟩ := h' q hq
        exact ⟨d, e, d1, d2, d3, d4, b', eb', hQ _ _ h2⟩
    · rintro σ H1 ⟨cs, left, mix, c, rfl, T, S⟩
      -- if stream[1] > 0
      refine ⟨_, rfl, p, _, 1, _, rfl, rfl, SqL.of S.hp, atI_nat (j := 1) rfl, _, _, rfl, rfl, _, rfl, ?_⟩
      refine ite2 (fun hc => ?_) (fun hc => ?_)
      · refine ⟨_, rfl, p, _, 1, _, rfl, rfl, SqL.of S.hp, atI_nat (j := 1) rfl, .inl ⟨_, rfl, _, rfl, _, _, rfl, rfl, hm0, ?_⟩⟩
        refine ⟨_, rfl, p, _, 1, _, rfl, rfl, SqL.of S.hp, atI_nat (j := 1) rfl, _, rfl, _, _, rfl, rfl, ⟨hm0, hm1⟩, ?_⟩
        refine ⟨_, rfl, p, _, 1, 1, rfl, rfl, S.hp, rfl, ?_⟩
        have hl0 := S.left0
        have S5 := S.put (left' := left / many) (Int.ediv_nonneg hl0 (Int.le_of_lt hm0)) S.n0 S.mix0 S.mix1
        exact ⟨_, rfl, k _ _ (Int.emod_nonneg _ (Int.ne_of_gt hm0)) (Int.emod_lt_of_pos _ hm0) T.put ⟨_, _, _, S5⟩⟩
      · have hm2 := S.mix0
        have hm3 := S.mix1
        have hn0 := S.n0
        refine ⟨_, rfl, p, _, 3, _, rfl, rfl, SqL.of S.hp, atI_nat (j := 3) rfl, _, rfl, p, _, 2, _, rfl, rfl, SqL.of S.hp, atI_nat (j := 2) rfl, _, _, rfl, rfl, .inl ⟨by decide, by decide⟩, _, _, rfl, rfl, _, _, rfl, rfl, _, _, rfl, rfl, ⟨by decide, by decide, ?_⟩, ?_⟩
        · omega
        · refine .inl ⟨_, rfl, _, _, rfl, rfl, (by show (0 : Int) < 2147483629; decide), ?_⟩
          generalize hz : (mix + 9049 * (n + 1) + 130073) ^ Int.toNat 5 = z
          have hy0 : 0 ≤ z % 2147483629 := Int.emod_nonneg _ (by decide)
          have hy1 : z % 2147483629 < 2147483629 := Int.emod_lt_of_pos _ (by decide)
          refine ⟨_, rfl, _, _, rfl, rfl, .inr ⟨by decide, by decide⟩, _, rfl, p, _, 2, _, rfl, rfl, SqL.of S.hp, atI_nat (j := 2) rfl, _, _, rfl, rfl, .inl ⟨by decide, by decide⟩, _, _, rfl, rfl, _, _, rfl, rfl, _, _, rfl, rfl, ⟨by decide, by decide, ?_⟩, ?_⟩
          · show (z % 2147483629 * 44089 + 60077 * (n + 1) + 47).natAbs < 2 ^ 64
            omega
          · refine .inl ⟨_, rfl, _, _, rfl, rfl, (by show (0 : Int) < 1000000007; decide), _, rfl, _, _, rfl, rfl, hm0, ?_⟩
            exact k _ _ (Int.emod_nonneg _ (Int.ne_of_gt hm0)) (Int.emod_lt_of_pos _ hm0) T ⟨_, _, _, S⟩
end
end TB

set_option Elab.async false
set_option linter.all false
set_option maxRecDepth 100000
set_option maxHeartbeats 4000000
namespace TB
open PySem PySem.Spec PyProof.Rows L2
def rLenS (K : PySem.W.Frag) : List V → Hp → VK → Prop := fun xs H Q => ∃ p ys, xs = [.ref p] ∧ (SqL K H p ys ∨ SqT K H p ys) ∧ Q (.int ys.length) H
theorem eraseIdx_perm {α : Type} : ∀ (l : List α) (i : Nat) (h : i < l.length), (l[i] :: l.eraseIdx i).Perm l
  | [], _, h => absurd h (by simp)
  | a :: l, 0, _ => List.Perm.refl _
  | a :: l, i + 1, h => by
    have h1 : i < l.length := by simpa using h
    have q := eraseIdx_perm l i h1
    show (l[i] :: a :: l.eraseIdx i).Perm (a :: l)
    exact (List.Perm.swap a (l[i]) (l.eraseIdx i)).trans (q.cons a)
/-- the things of a list in some order, in a new list -/
def spMixed (K : PySem.W.Frag) : Sp := fun vs H Q _ => ∃ (p l a : Addr) (n : Int) (xs : List V), vs = [.ref p, .ref a] ∧ SprAt H p l n ∧ (SqL K H a xs ∨ SqT K H a xs) ∧ xs.length ≤ 100 ∧ n < 900000 ∧
  ∀ (D : Addr) (H' : Hp) (ys : List V), H D = none → Turned p l H H' → SprAt H' p l (n + (xs.length : Int)) → H' D = some (.lst ys) → ys.Perm xs → Q (.ref D) H'
section
variable {P : Program} {w : World} {K : PySem.W.Frag} {mg : Str → Option Value} {base : Heap} {f fB : Addr} {fd fdB : FuncData}
theorem scMixed : FnScope ["stream", "some", "left", "k"] ["stream", "some"] (defScope sMixed) := ⟨rfl, rfl, rfl, by decide +kernel, rfl, by decide +kernel, by decide +kernel⟩
theorem ok_mixed (F : FnP K "_law_mixed" sMixed f fd) (mL : mg "list" = none) (mN : mg "len" = none) (mR : mg "range" = none) (mB : mg "_law_below" = some (.ref fB)) (GB : FnOk P w K mg base CX0 1 fB fdB ["stream", "many"] spBelow)
    (kB : PySem.W.keepIn K (.ref fB) = true) (bB : Binds K fdB ["stream", "many"] []) : FnOk P w K mg base CX0 2 f fd ["stream", "some"] (spMixed K) := by
  refine F.ok scMixed (fun vs H Q E h => ?_) (fun cdv A outer s H vs Q E hr h => ?_)
  · obtain ⟨p, l, a, n, xs, rfl, _⟩ := h
    rfl
  · obtain ⟨p, l, a, n, xs, rfl, hS, hx, hlen, hn, k⟩ := h
    have nd := scMixed.nd
    refine ⟨_, PSs.nox (pss_cons (ps_set (i := 2) nd rfl (Or.inr rfl) (pe_callTy call_list_of (by rfl) mL (by decide +kernel) (pa_cons (pv 1) pa_nil)))
      (pss_one (ps_ret (pe_lc (te := tBM K "list" rPopAt (tVar 2) (tCons (tCall spBelow [] E0 (tCons (tVar 0) (tCons (tCB (rLenS K) (tCons (tVar 2) tNil)) tNil))) tNil)) (own := [("k", 3)]) (g := gName 3) (tt := tYes) rfl nd (pi_range1 rfl mR (pa_cons (pe_callB call_len_seq (by rfl) mN PySem.boot_len (pa_cons (pv 2) pa_nil)) pa_nil))
        (blkOk_by (N := ["stream", "some", "left", "k"]) (sc := defScope sMixed) (by decide +kernel)) (fun _ _ _ _ _ => pg_name (i := 3) nd rfl (Or.inl rfl)) (fun _ _ _ _ _ => pts_nil)
        (fun _ _ _ _ _ => pe_bm PySem.F.plainAttrs_list PySem.F.slot_list_pop PySem.F.type_list_pop mt_popAt (pv 2) (pa_cons (pe_call GB hr (by rfl) mB kB bB .nil pass0 (pa_cons (pv 0) (pa_cons (pe_callB call_len_seq (by rfl) mN PySem.boot_len (pa_cons (pv 2) pa_nil)) pa_nil))) pa_nil)))))), ?_⟩
    -- left = list(some)
    refine ⟨_, rfl, a, xs, rfl, hx, fun L hL => ?_⟩
    obtain ⟨cs0, left0, mix0, S0⟩ := hS
    have S1 : SprAt (upd H L (.lst xs)) p l n := ⟨cs0, left0, mix0, S0.new hL⟩
    have T1 : Turned p l H (upd H L (.lst xs)) := (Turned.refl p l H).new hL
    have nLp : L ≠ p := (ne_of_none S0.hp hL).symm
    have nLl : L ≠ l := (ne_of_none S0.hl hL).symm
    refine ⟨_, rfl, L, xs, rfl, .inl (SqL.of upd_same), _, rfl, by omega, by omega, fun D hD => ?_⟩
    have nDL : D ≠ L := fun q => by
      rw [q, upd_same] at hD
      cases hD
    have hD0 : H D = Option.none := by
      rw [upd_ne nDL] at hD
      exact hD
    have nDp : D ≠ p := (ne_of_none S0.hp hD0).symm
    have nDl : D ≠ l := (ne_of_none S0.hl hD0).symm
    refine lc_range (n := ((xs.length : Nat) : Int).toNat) (fun i H' => ∃ acc rest, H' D = some (.lst acc) ∧ H' L = some (.lst rest) ∧ acc.length = i ∧ (acc ++ rest).Perm xs ∧ Turned p l H H' ∧ SprAt H' p l (n + (i : Int))) ?_ ?_ ?_
    · refine ⟨[], xs, upd_same, by rw [upd_ne nDL.symm]; exact upd_same, rfl, List.Perm.refl _, T1.new hD, ?_⟩
      have S2 := (S0.new (o := .lst xs) hL).new (o := .lst []) hD
      show SprAt _ p l (n + 0)
      rw [Int.add_zero]
      exact ⟨_, _, _, S2⟩
    · rintro i H1 hi ⟨acc, rest, hA, hR, hlen1, hperm, T, S⟩
      have hi2 : i < xs.length := by omega
      have hlr : acc.length + rest.length = xs.length := by
        rw [← List.length_append]
        exact hperm.length_eq
      have hr0 : 0 < rest.length := by omega
      refine ⟨rfl, ?_⟩
      refine ⟨_, rfl, .inl ⟨rfl, _, SqL.of hR⟩, ?_⟩
      refine ⟨_, rfl, ⟨_, rfl, L, rest, rfl, .inl (SqL.of hR), ?_⟩⟩
      refine ⟨p, l, n + (i : Int), (rest.length : Int), rfl, S, by omega, by omega, by omega, fun d H2 hd0 hd1 T2 S2 => ?_⟩
      have hR2 : H2 L = some (.lst rest) := T2 L _ nLp nLl hR
      have hA2 : H2 D = some (.lst acc) := T2 D _ nDp nDl hA
      have hk : d.toNat < rest.length := by omega
      refine ⟨L, rest, d, d.toNat, rest[d.toNat], rfl, rfl, hR2, by omega, by omega, seqIndex_of hd0 (by omega), List.getElem?_eq_getElem hk, ?_⟩
      refine ⟨acc, by rw [upd_ne nDL]; exact hA2, small1000 (by omega), acc ++ [rest[d.toNat]], rest.eraseIdx d.toNat, upd_same, by rw [upd_ne nDL.symm]; exact upd_same, ?_, ?_, ?_, ?_⟩
      · rw [List.length_append, List.length_singleton, hlen1]
      · refine List.Perm.trans ?_ hperm
        rw [List.append_assoc]
        refine List.Perm.append_left acc ?_
        exact eraseIdx_perm rest d.toNat hk
      · intro b o h1 h2 e
        have e1 := T b o h1 h2 e
        have e2 := T2 b o h1 h2 e1
        have n1 : b ≠ L := ne_of_none e hL
        have n2 : b ≠ D := ne_of_none e hD0
        rw [upd_ne n2, upd_ne n1]
        exact e2
      · obtain ⟨cs, lf, mx, S3⟩ := S2
        refine ⟨cs, lf, mx, ⟨?_, ?_, S3.ne, S3.left0, by have := S3.n0; push_cast; omega, S3.mix0, S3.mix1⟩⟩
        · rw [upd_ne nDp.symm, upd_ne nLp.symm, S3.hp]
          have e : n + (i : Int) + 1 = n + ((i + 1 : Nat) : Int) := by omega
          rw [e]
        · rw [upd_ne nDl.symm, upd_ne nLl.symm]
          exact S3.hl
    · rintro H1 ⟨acc, rest, hA, hR, hlen1, hperm, T, S⟩
      have hlr : acc.length + rest.length = xs.length := by
        rw [← List.length_append]
        exact hperm.length_eq
      have e0 : rest = [] := List.eq_nil_of_length_eq_zero (by omega)
      subst e0
      rw [List.append_nil] at hperm
      refine k D H1 acc hD0 T ?_ hA hperm
      have e : (((xs.length : Nat) : Int).toNat : Int) = (xs.length : Int) := by omega
      rw [e] at S
      exact S
end
end TB

set_option Elab.async false
set_option linter.all false
set_option maxRecDepth 100000
set_option maxHeartbeats 8000000
namespace TBX
open PySem PySem.Spec PySem.Calls PyProof.Rows PySem.HandSPX
section
variable {M : Model} {A : Around} {E : Value → Shared → Prop} {h : Heap} {g : Array GenState} {d : Drawn} {t : Nat} {os : OsState}
variable {nm q : Str} {C N : Addr} {bs bm bmB : List Value} {hdct : Bool} {sn : List Str} {sub : List Value} {ab : Bool} {col : Option Bool} {dd : Option Addr} {k0 k1 k2 k3 k5 : Option Value} {B newId initId : String}
/-- the look at BaseException.__new__'s arguments, keywords among them -/
theorem newLook (F : ExcBaseFacts B newId initId bmB) (hT : ∀ Y : String, bm.contains (.type Y) = bmB.contains (.type Y)) {us : List Value} {kw : List (Str × Value)} {Q : Unit → Shared → Prop}
    (hC : h.get? C = some (excClassObj nm q C N bs bm hdct sn sub ab col dd k0 k1 k2 k3 k5 newId)) (hq : Q () ⟨h, g, d, t, os⟩) : wpAny M A (checkBuiltinCall newId ⟨.ref C :: us, kw⟩) Q E ⟨h, g, d, t, os⟩ := by
  have hB : (Value.ref C :: bm).contains (.type B) = true := by rw [List.contains_cons, hT, F.hasB, Bool.or_true]
  have hS := F.noStar
  simp only [checkBuiltinCall, F.newKind, F.newSplit, F.newRow]
  repeat (first | refine wpAny_loadPart_at hC ?_ | (refine wpAny_isSubtype_exc hC ?_; rw [hB]) | refine wpAny_staticBase_exc hC ?_ | refine wpAny_madeBy_exc hC ?_ | simp only [bne_self_eq_false, Bool.false_eq_true, if_false] | wp_step)
  exact hq
end
section
variable {prog : Program} {w : World} {A : Around} {E : Value → Shared → Prop} {R : Result → Shared → Prop} {h : Heap} {g : Array GenState} {d : Drawn} {t : Nat} {os : OsState}
variable {nm q : Str} {C N : Addr} {bs bm bmB : List Value} {hdct : Bool} {sn : List Str} {sub : List Value} {ab : Bool} {col : Option Bool} {dd : Option Addr} {k0 k1 k2 k3 k5 : Option Value} {B newId initId : String}
/-- BaseException.__new__ lays the arguments' tuple and the exception -/
theorem newMade (F : ExcBaseFacts B newId initId bmB) (hT : ∀ Y : String, bm.contains (.type Y) = bmB.contains (.type Y)) {us : List Value} {kw : List (Str × Value)}
    (hC : h.get? C = some (excClassObj nm q C N bs bm hdct sn sub ab col dd k0 k1 k2 k3 k5 newId)) (hz : us.length ≤ sizeLine)
    (hq : R (.ok (.ret (.ref (h.objs.size + 1)))) ⟨(h.push (W.kdv_tup us)).push (excO C h.objs.size), g, d, t, os⟩) :
    codeAny (model prog w) A (.builtin newId ⟨.ref C :: us, kw⟩) R ⟨h, g, d, t, os⟩ := by
  have h0 := F.ends
  have h1 : (Value.ref C :: bm).contains (.type B) = true := by rw [List.contains_cons, hT, F.hasB, Bool.or_true]
  have h2 : (Value.ref C :: bm).contains (.type "AttributeError") = false := by rw [List.contains_cons, hT, F.noAttr] <;> rfl
  have h3 : (Value.ref C :: bm).contains (.type "NameError") = false := by rw [List.contains_cons, hT, F.noName] <;> rfl
  refine codeAny_builtinAt F.entry ?_
  unfold Builtin.«BaseException.__new__»
  refine PySem.wpAt_bind ?_
  show PySem.wpAt _ _ _ (stack >>= _) _ _ _
  refine PySem.wpAt_bind (PySem.wpAt_stack fun p below => PySem.wpAt_of_wpAny ?_)
  wp_walk
  refine PySem.wpAt_of_wpAny ?_
  rw [F.owner]
  repeat (first | with_reducible refine wpAny_madeHere_exc F.canon hC ?_ | with_reducible refine wpAny_loadPart_at hC ?_ | (with_reducible refine wpAny_isSubtype_exc hC ?_; first | rw [h1] | rw [h2] | rw [h3]) | wp_step)
  show R _ _
  rw [Heap.size_push]
  exact hq
theorem typeCalled (F : ExcBaseFacts B newId initId bmB) (hT : ∀ Y : String, bm.contains (.type Y) = bmB.contains (.type Y)) {us : List Value} {kw : List (Str × Value)} {fI : Addr} {Q : Fin → Shared → Prop}
    (hC : h.get? C = some (excClassObj nm q C N bs bm hdct sn sub ab col dd k0 k1 k2 k3 k5 newId)) (hi : W.Looks (model prog w) h (typeLookup (.ref C) "__init__") (some (.ref fI)))
    (hb : ∀ self, W.Looks (model prog w) h (bindSpecial (.ref fI) self) (.ref fI, [self])) (hz : us.length ≤ sizeLine)
    (hq : codeAny (model prog w) A (.call (.ref fI) ⟨.ref (h.objs.size + 1) :: us, kw⟩)
      (fun r s' => match r with | .ok (.ret v) => v = .none ∧ Q (.done (.ret (.ref (h.objs.size + 1)))) s' | .ok _ => False | .error e => E e s')
      ⟨(h.push (W.kdv_tup us)).push (excO C h.objs.size), g, d, t, os⟩) :
    wpAny (model prog w) A (Builtin.«type.__call__» ⟨.ref C :: us, kw⟩) Q E ⟨h, g, d, t, os⟩ := by
  repeat (first | with_reducible refine wpAny_loadPart_at hC ?_ | with_reducible refine wpAny_madeBy_exc hC ?_ | wp_step)
  refine codeAny_call_builtin_code (Code.quiet_builtin _ F.quiet) (newLook F hT hC ?_)
  refine newMade F hT hC hz ?_
  show wpAny _ _ _ _ _ _
  have kp : ∀ b o, h.get? b = some o → ((h.push (W.kdv_tup us)).push (excO C h.objs.size)).get? b = some o := fun b o e => Heap.get?_push_of_some _ (Heap.get?_push_of_some _ e)
  have hC1 := kp _ _ hC
  have he : ((h.push (W.kdv_tup us)).push (excO C h.objs.size)).get? (h.objs.size + 1) = some (excO C h.objs.size) := by heap_get
  have hcC : (Value.ref C :: bm).contains (.ref C) = true := by simp
  have i1 := hi.keeps kp
  have b1 := (hb (.ref (h.objs.size + 1))).keeps kp
  unfold isInstance
  repeat (first | with_reducible refine wpAny_loadPart_at he ?_ | (with_reducible refine wpAny_isSubtype_exc hC1 ?_; rw [hcC]) | wp_step)
  show wpAny _ _ (typeLookup (.ref C) _) _ _ _
  refine i1.at ?_
  refine wpAny_holding (wpAny_bind (b1.at ?_))
  refine wpAny_bind (wpAny_call (codeAny_mono hq fun r s' z => ?_))
  rcases r with e | (v | _ | _ | _) <;> first | exact z | exact z.elim | skip
  obtain ⟨rfl, z⟩ := z
  first
    | exact wpAny_pure (wpAny_pure z)
    | (wp_walk; exact z)
theorem clsCalled (F : ExcBaseFacts B newId initId bmB) (hT : ∀ Y : String, bm.contains (.type Y) = bmB.contains (.type Y)) {us : List Value} {kw : List (Str × Value)} {fI : Addr}
    (hC : h.get? C = some (excClassObj nm q C N bs bm hdct sn sub ab col dd k0 k1 k2 k3 k5 newId)) (hi : W.Looks (model prog w) h (typeLookup (.ref C) "__init__") (some (.ref fI)))
    (hb : ∀ self, W.Looks (model prog w) h (bindSpecial (.ref fI) self) (.ref fI, [self])) (hz : us.length ≤ sizeLine)
    (hq : codeAny (model prog w) (A.under (.builtin "type.__call__" ⟨.ref C :: us, kw⟩)) (.call (.ref fI) ⟨.ref (h.objs.size + 1) :: us, kw⟩) (W.InitBack (h.objs.size + 1) R)
      ⟨(h.push (W.kdv_tup us)).push (excO C h.objs.size), g, d, t, os⟩) :
    codeAny (model prog w) A (.call (.ref C) ⟨us, kw⟩) R ⟨h, g, d, t, os⟩ := by
  have f1 := tc_lookup
  have f2 := tc_bind (.ref C)
  have hTy : (⟨h, g, d, t, os⟩ : Shared).TypeIs (.ref C) "type" := ⟨_, hC, rfl⟩
  refine codeAny_of_tree ?_
  show wpAny _ _ (callAny (.ref C) _) _ _ _
  repeat (any_goals (first | assumption | with_reducible refine wpAny_loadPart_at hC ?_ | wp_step))
  refine ⟨rfl, ?_⟩
  refine codeAny_call_builtin_at (Code.quiet_builtin _ (by decide +kernel)) entry_typeCall (wpAny_check_type_call_sub hC (typeCalled F hT hC hi hb hz ?_))
  refine codeAny_mono hq fun r s' z => ?_
  rcases r with e | (v | _ | _ | _) <;> exact z
end
end TBX

set_option Elab.async false
set_option linter.all false
set_option maxRecDepth 100000
set_option maxHeartbeats 8000000
namespace TBX
open PySem PySem.Spec PyProof.Rows L2
/-! ### exceptions of the program's own classes, held as values -/
structure ErrC (K : PySem.W.Frag) (C : Addr) : Prop where
  o : OexC K C
  cl : (PySem.W.clsIn K C).isSome = true
  hd : PySem.W.hasDictIn K C = true
  ga : PySem.W.findIn K (.ref C) "__getattribute__" = some (some (.builtin "BaseException.__getattribute__"))
  gt : PySem.W.findIn K (.ref C) "__getattr__" = some none
  ca : PySem.W.findIn K (.ref C) "__class__" = some (some (.builtin "object.__class__"))
  mo : PySem.W.mroIn K C (.type "object") = some true
structure ErrG (K : PySem.W.Frag) : Prop where
  gn : PySem.W.specialIn K (.builtin "object.__class__") "__get__" = some (some (.builtin "getset_descriptor.__get__"))
  tk : PySem.W.takesIn K (.builtin "object.__class__") = some true
/-- an exception of the class at C stands at e; its fields -/
def ErrAt (H : Hp) (e C : Addr) (fs : List (Str × V)) : Prop := (fs = [] ∧ H e = some (exo e C none)) ∨ ∃ d, H e = some (exo e C (some d)) ∧ H d = some (exd d fs)
theorem ErrAt.ext {H H' : Hp} {e C : Addr} {fs : List (Str × V)} (x : ErrAt H e C fs) (k : ∀ b o, H b = some o → (∀ xs, o ≠ .lst xs) → (∀ ps, o ≠ .tbl ps) → H' b = some o) : ErrAt H' e C fs := by
  have n1 : ∀ (d : Option Addr) (xs : List V), exo e C d ≠ .lst xs := fun d xs z => by
    have z' : HO.ext _ = HO.lst xs := z
    cases z'
  have n2 : ∀ (d : Addr) (xs : List V), exd d fs ≠ .lst xs := fun d xs z => by
    have z' : HO.ext _ = HO.lst xs := z
    cases z'
  have n3 : ∀ (d : Addr) (ps : Array Value), exd d fs ≠ .tbl ps := fun d ps z => by
    have z' : HO.ext _ = HO.tbl ps := z
    cases z'
  rcases x with ⟨h1, h2⟩ | ⟨d, h1, h2⟩
  · exact .inl ⟨h1, k _ _ h2 (n1 _) (fun ps => exo_tbl)⟩
  · exact .inr ⟨d, k _ _ h1 (n1 _) (fun ps => exo_tbl), k _ _ h2 (n2 _) (n3 _)⟩
section
variable {X : Cx} {pins : List (Addr × Obj)} {σ : L2.St} {H : Hp} {s : Shared} {e C : Addr} {fs : List (Str × V)}
/-- the object of such an exception, as the library's rules ask for it -/
theorem ErrAt.inst (I : Inv X pins σ H s) (x : ErrAt H e C fs) : ∃ (ox : Obj) (od : Option Obj), PySem.W.InstAt s.heap e ox C od ∧ ∀ f v, fs.lookup f = some v → ∃ u oD, od = some oD ∧ PySem.W.lookIn f oD = some (some u) ∧ RelV v u := by
  rcases x with ⟨h1, h2⟩ | ⟨d, h1, h2⟩
  · obtain ⟨t1, ho⟩ := exo_at I.hok h2
    refine ⟨_, none, ⟨ho, rfl, rfl, True.intro⟩, fun f v hl => ?_⟩
    rw [h1] at hl
    cases hl
  · obtain ⟨t1, ho⟩ := exo_at I.hok h1
    obtain ⟨mA, hns, rel⟩ := exd_at I.hok h2
    obtain ⟨od, hod, hl⟩ := lookIn_ns hns
    refine ⟨_, some od, ⟨ho, rfl, rfl, hod⟩, fun f v hf => ?_⟩
    obtain ⟨u, hu, ru⟩ := RelO.some_of (v := v) (o := mA f) (by rw [← hf]; exact rel f)
    exact ⟨u, od, rfl, by rw [hl, hu], ru⟩
/-- e.f -/
def tEfld (K : PySem.W.Frag) (te : TE) (f : Str) : TE := fun σ H Q => te σ H fun x H1 => ∃ (a C : Addr) (fs : List (Str × V)) (v : V), x = .ref a ∧ ErrC K C ∧ ErrAt H1 a C fs ∧ PySem.W.findIn K (.ref C) f = some none ∧ fs.lookup f = some v ∧ Q v H1
theorem pe_efld {e : Expr} {f : Str} {pos : Pos} {te : TE} (he : PE X e te) (hb : attributeBase e f X.env (eval e X.env) = eval e X.env) : PE X (.Attribute e f pos) (tEfld X.K te f) := by
  refine ⟨fun pins s σ H Q I h => ?_⟩
  refine attr_of hb (thn (he.run pins s σ H _ I h) fun u s1 ⟨x, H1, I1, rx, a, C, fs, v, ex, T, ea, hn, hl, q⟩ => ?_)
  subst ex
  obtain rfl : u = Value.ref a := rx
  obtain ⟨ox, od, J, hfs⟩ := ea.inst I1
  obtain ⟨u, oD, e2, e3, ru⟩ := hfs f v hl
  subst e2
  exact PySem.PX.exc_get I1.kIn J T.ga T.gt T.o.exC (PySem.W.findObj_own T.hd hn rfl e3) (handed_of ru) ⟨v, H1, I1.tok _, ru, q⟩
/-- isinstance(e, c) -/
def rIsX (K : PySem.W.Frag) : List V → Hp → VK → Prop := fun xs H Q => ∃ (a C : Addr) (fs : List (Str × V)) (c : V) (u : Value) (b : Bool), xs = [.ref a, c] ∧ ClsV c u ∧ ErrC K C ∧ ErrAt H a C fs ∧ PySem.W.kitOne K (.ref C) u = some b ∧ Q (.bl b) H
theorem call_isX (G : ErrG X.K) : CallR X (.builtin "isinstance") (rIsX X.K) := by
  intro pins s σ H xs us Q I r h
  obtain ⟨a, C, fs, c, u, b, rfl, k, T, ea, eb, q⟩ := h
  obtain ⟨u1, u2, rfl, r1, r2⟩ := vals2 r
  have e2 := k.eq r2
  subst e2
  obtain rfl : u1 = Value.ref a := r1
  obtain ⟨ox, od, J, _⟩ := ea.inst I
  exact PySem.W.kia_one (PySem.W.kitx_exc T.cl T.ga T.gt T.o.exC T.ca G.gn G.tk T.mo) I.kIn J eb (fun z => nomatch z) fun tk => ⟨.bl b, H, I.tok tk, rfl, q⟩
/-! ### made -/
theorem run_exc {k n : Nat} {fI : Addr} {fd : FuncData} {ps ks : List Str} {sp : Sp} {g : List Value → List Value → List Value} {gV : List V → List V → List V} {Q : VK} {us ws : List Value} {vs zs : List V} (T : OexC X.K C)
    (iC : PySem.W.findIn X.K (.ref C) "__init__" = some (some (.ref fI))) (tI : PySem.W.typeIn X.K (.ref fI) = some (.type "function")) (F1 : FnOk X.prog X.w X.K X.mg X.base CX0 k fI fd ps sp) (hr : Room (k + 1) X.A) (hb : KBn X.K fd ps (n + 1) ks g gV)
    (I : Inv X pins σ H s) (r : Vals vs us) (rz : Vals zs ws) (l1 : vs.length = n) (l2 : zs.length = ks.length) (l3 : n ≤ 1000)
    (h : ∀ a, H a = none → sp (gV (.ref a :: vs) zs) (upd H a (exo a C none)) (fun v H2 => v = .non ∧ Q (.ref a) H2) E0) :
    wpAny (model X.prog X.w) X.A (call (.ref C) us (ks.zip ws)) (EP X pins σ Q) X.xe s := by
  obtain ⟨nm, q, N, bs, bm, sn, sub, ab, col, dd, k0, k1, k2, k3, k5, hC, hbm⟩ := T.cls
  obtain ⟨hp, gg, dr, tk, os⟩ := s
  have up : hp.objs.size ≤ hp.objs.size + 1 := Nat.le_add_right _ 1
  have q1 := h (hp.objs.size + 1) (I.hok.fresh up)
  have kp : ∀ b o, hp.get? b = some o → ((hp.push (PySem.W.kdv_tup us)).push (PySem.HandSPX.excO C hp.objs.size)).get? b = some o := fun b o z => Heap.get?_push_of_some _ (Heap.get?_push_of_some _ z)
  have he : ((hp.push (PySem.W.kdv_tup us)).push (PySem.HandSPX.excO C hp.objs.size)).get? (hp.objs.size + 1) = some (PySem.HandSPX.excO C hp.objs.size) := by heap_get
  have J : Inv X pins σ (upd H (hp.objs.size + 1) (exo (hp.objs.size + 1) C none)) ⟨(hp.push (PySem.W.kdv_tup us)).push (PySem.HandSPX.excO C hp.objs.size), gg, dr, tk, os⟩ :=
    Inv.laid (t' := tk) (a := hp.objs.size + 1) (o := exo (hp.objs.size + 1) C none) (h' := (hp.push (PySem.W.kdv_tup us)).push (PySem.HandSPX.excO C hp.objs.size)) I kp up (exo_ok he)
  have r1 : Vals (V.ref (hp.objs.size + 1) :: vs) (Value.ref (hp.objs.size + 1) :: us) := .cons rfl r
  have hz : us.length ≤ sizeLine := by
    rw [← r.length, sizeLine_eq]
    omega
  have hn1 : (Value.ref (hp.objs.size + 1) :: us).length = n + 1 := by
    rw [List.length_cons, ← r.length, l1]
  refine wpAny_call (clsCalled PySem.F.excBase_ValueError (fun Y => PySem.HandSPX.refsVE_contains Y bm hbm) (I.kIn _ _ hC) (PySem.W.looks_findIn I.kIn iC) (fun self => PySem.W.bind_fn I.kIn self tI) hz
    (codeAny_mono (F1.run _ X.stack _ _ ⟨Value.ref (hp.objs.size + 1) :: us, ks.zip ws⟩ (g (Value.ref (hp.objs.size + 1) :: us) ws) _ _ E0 (hr.make C us (ks.zip ws)) (J.env0.make C us (ks.zip ws)) (hb.to _ _ ws J.kIn hn1 (rz.length.symm.trans l2)) (hb.rel r1 rz) q1) fun r2 s' hq => ?_))
  cases r2 with
  | error er => exact (show False from hq).elim
  | ok fl =>
    cases fl with
    | ret u =>
      obtain ⟨v, H2, J2, rv, ev, q2⟩ := J.after hq
      subst ev
      exact ⟨rv, ⟨.ref (hp.objs.size + 1), H2, J2, rfl, q2⟩⟩
    | next => exact False.elim hq
    | brk => exact False.elim hq
    | cont => exact False.elim hq
/-- C(e, ..) | C(k = e, ..), C an exception's class with an __init__ that keeps sp -/
def tExP (C : Addr) (n : Nat) (sp : Sp) (gV : List V → List V → List V) (t : TA) : TE := fun σ H Q => t σ H fun vs H1 => vs.length = n ∧ ∀ a, H1 a = none → sp (gV (.ref a :: vs) []) (upd H1 a (exo a C none)) (fun v H2 => v = .non ∧ Q (.ref a) H2) E0
def tExK (C : Addr) (m : Nat) (sp : Sp) (gV : List V → List V → List V) (t : TA) : TE := fun σ H Q => t σ H fun zs H1 => zs.length = m ∧ ∀ a, H1 a = none → sp (gV [.ref a] zs) (upd H1 a (exo a C none)) (fun v H2 => v = .non ∧ Q (.ref a) H2) E0
section
variable {k n : Nat} {fI : Addr} {fd : FuncData} {ps ks : List Str} {sp : Sp} {g : List Value → List Value → List Value} {gV : List V → List V → List V} {x : Str} {p pos : Pos} {e1 : Expr} {es : List Expr} {kws : List Keyword} {t : TA}
theorem pe_exP (T : OexC X.K C) (iC : PySem.W.findIn X.K (.ref C) "__init__" = some (some (.ref fI))) (tI : PySem.W.typeIn X.K (.ref fI) = some (.type "function")) (F1 : FnOk X.prog X.w X.K X.mg X.base CX0 k fI fd ps sp) (hr : Room (k + 1) X.A) (hb : KBn X.K fd ps (n + 1) [] g gV) (l3 : n ≤ 1000)
    (hg : Gl X x) (hm : X.mg x = some (.ref C)) (ha : PA X (e1 :: es) t)
    (hdb : (x == ("__debug__" : Str)) = false := by decide) (he : starEach (e1 :: es) X.env = (false, eval e1 X.env) :: starEach es X.env := by rfl) (hpl : (backTo pos (starEach es X.env)).any (·.1) = false := by rfl) :
    PE X (.Call (.Name x p) (e1 :: es) [] pos) (tExP C n sp gV t) := by
  refine ⟨fun pins s σ H Q I h => ?_⟩
  refine wpAny_Call_Name_kw (ld_glob I hg hm ?_ hdb)
  refine PySem.W.callWith_K (h₀ := X.base) I.ok.mod.kin T.kC (thn (ha.run pos pins s σ H _ I h) fun us s1 ⟨vs, H1, I1, r, l1, q⟩ => ⟨I1.kIn, ?_⟩) he hpl
  exact run_exc (zs := []) (ws := []) T iC tI F1 hr hb I1 r .nil l1 rfl l3 q
theorem pe_exK (T : OexC X.K C) (iC : PySem.W.findIn X.K (.ref C) "__init__" = some (some (.ref fI))) (tI : PySem.W.typeIn X.K (.ref fI) = some (.type "function")) (F1 : FnOk X.prog X.w X.K X.mg X.base CX0 k fI fd ps sp) (hr : Room (k + 1) X.A) (hb : KBn X.K fd ps 1 ks g gV)
    (hg : Gl X x) (hm : X.mg x = some (.ref C)) (hkw : PK X kws t)
    (hall : (backToKw pos (keywordEach kws X.env)).all (·.1.isSome) = true := by rfl) (hks : (backToKw pos (keywordEach kws X.env)).filterMap (·.1) = ks := by rfl) (hdb : (x == ("__debug__" : Str)) = false := by decide)
    (hpl : ((backTo pos (starEach [] X.env)).any (·.1) || (backToKw pos (keywordEach kws X.env)).any (·.1.isNone)) = false := by rfl) :
    PE X (.Call (.Name x p) [] kws pos) (tExK C ks.length sp gV t) := by
  refine ⟨fun pins s σ H Q I h => ?_⟩
  refine wpAny_Call_Name_kw (ld_glob I hg hm ?_ hdb)
  refine PySem.W.callWith_KW0 (h₀ := X.base) I.ok.mod.kin T.kC hall ?_ hpl
  refine thn (hkw.run pos pins s σ H _ I h) fun ws s2 ⟨zs, H2, I2, rz, l2, q⟩ => ⟨I2.kIn, ?_⟩
  rw [hks]
  exact run_exc (n := 0) (us := []) (vs := []) T iC tI F1 hr hb I2 .nil rz rfl l2 (by omega) q
/-- C(), C an exception's class without an own __init__ -/
def tEx0 (C : Addr) : TE := fun _ H Q => ∀ a, H a = none → Q (.ref a) (upd H a (exo a C none))
theorem pe_ex0 (T : OexC X.K C) (iC : PySem.W.findIn X.K (.ref C) "__init__" = some (some (.builtin "ValueError.__init__"))) (hg : Gl X x) (hm : X.mg x = some (.ref C)) (hdb : (x == ("__debug__" : Str)) = false := by decide) :
    PE X (.Call (.Name x p) [] [] pos) (tEx0 C) := by
  refine ⟨fun pins s σ H Q I h => ?_⟩
  obtain ⟨nm, q, N, bs, bm, sn, sub, ab, col, dd, k0, k1, k2, k3, k5, hC, hbm⟩ := T.cls
  refine wpAny_Call_Name_kw (ld_glob I hg hm ?_ hdb)
  refine PySem.W.callWith_K0 I.kIn T.kC ?_
  obtain ⟨hp, gg, dr, tk, os⟩ := s
  refine PySem.W.call_B PySem.F.excBase_ValueError (fun Y => PySem.HandSPX.refsVE_contains Y bm hbm) (I.kIn _ _ hC) (PySem.W.looks_findIn I.kIn iC) (Nat.zero_le _) fun h' kp he ht => ?_
  have up : hp.objs.size ≤ hp.objs.size + 1 := Nat.le_add_right _ 1
  exact ⟨.ref (hp.objs.size + 1), _, Inv.laid (t' := tk) (a := hp.objs.size + 1) (o := exo (hp.objs.size + 1) C none) (h' := h') I kp up (exo_ok he), rfl, h _ (I.hok.fresh up)⟩
end
end
end TBX

set_option Elab.async false
set_option linter.all false
set_option maxRecDepth 100000
set_option maxHeartbeats 8000000
namespace TBX
open PySem PySem.Spec PyProof.Rows L2 LamX NdefX
/-! ### lambdas with parameters, held as values: F tells the name, the parameters, the scope, the captured cells, the code object; body the expression -/
def LamO (f : Addr) (F : NF) (body : Expr) : HO := .ext fun h => ∃ (od : Option Addr) (sl : Array (Option Value)) (pm ctv : Value), h.get? f = some (⟨.type "function", od, .func (PySem.W.kla_fn F.name F.qual F.params body F.scope F.cl pm (.ref F.c) ctv), sl⟩ : Obj)
theorem lamO_lst {f : Addr} {F : NF} {body : Expr} (xs : List V) : LamO f F body ≠ .lst xs := fun z => by
  unfold LamO at z
  cases z
theorem lamO_tbl {f : Addr} {F : NF} {body : Expr} (ps : Array Value) : LamO f F body ≠ .tbl ps := fun z => by
  unfold LamO at z
  cases z
theorem lamO_at {P : Program} {w : World} {H : Hp} {h : Heap} {f : Addr} {F : NF} {body : Expr} (hok : HOk P w H h) (e : H f = some (LamO f F body)) :
    ∃ (od : Option Addr) (sl : Array (Option Value)) (pm ctv : Value), h.get? f = some (⟨.type "function", od, .func (PySem.W.kla_fn F.name F.qual F.params body F.scope F.cl pm (.ref F.c) ctv), sl⟩ : Obj) := by
  obtain ⟨z, _, _⟩ := hok f _ e
  exact z
section
variable {X : Cx} {pins : List (Addr × Obj)} {σ : L2.St} {H : Hp} {s : Shared}
theorem inv_lam {F : NF} {body : Expr} {o : Obj} {t' : Nat} {pm ctv : Value} (I : Inv X pins σ H s) (ho : o = { cls := .type "function", data := .func (PySem.W.kla_fn F.name F.qual F.params body F.scope F.cl pm (.ref F.c) ctv) }) :
    Inv X pins σ (upd H s.heap.objs.size (LamO s.heap.objs.size F body)) { s with heap := s.heap.push o, toks := t' } := by
  subst ho
  refine Inv.laid (a := s.heap.objs.size) I (fun b u z => Heap.get?_push_of_some _ z) (Nat.le_refl _) ?_
  have e : (s.heap.push ({ cls := .type "function", data := .func (PySem.W.kla_fn F.name F.qual F.params body F.scope F.cl pm (.ref F.c) ctv) } : Obj)).get? s.heap.objs.size = some ({ cls := .type "function", data := .func (PySem.W.kla_fn F.name F.qual F.params body F.scope F.cl pm (.ref F.c) ctv) } : Obj) := Heap.get?_push_size _ rfl
  exact ⟨⟨_, _, pm, ctv, e⟩, ⟨_, e⟩, fun h1 h2 ⟨od, sl, p, t, z⟩ st => ⟨od, sl, p, t, st _ z⟩⟩
/-- lambda ..: body, made: a new function object; its code object is new, or found in the maker's table -/
def tLamM (T : List (Addr × Str)) (mk : Addr → NF) (body : Expr) : TE := fun _ H Q => Tabs T H ∧ ∀ (f c' : Addr) (H1 : Hp), ExtN H H1 → (∀ b, H1 b = Option.none → H b = Option.none) → Tabs T H1 → H f = Option.none → H1 f = some (LamO f (mk c') body) → H1 c' = some (CodeO c' (mk c').qual) → Q (.ref f) H1
theorem pe_lamM {T : List (Addr × Str)} {c P : Addr} {params : Arguments} {body : Expr} {scope : Scope} {pos : Pos} (TB : TabB X.base X.mg c P) (hcode : X.env.code = .ref c) (hm : (P, X.env.qual ++ "<lambda>") ∈ T) (hu : ∀ p ∈ T, p.1 = P → p.2 = X.env.qual ++ "<lambda>")
    (hdef : defaultsOf params X.env = ([], [])) (hfree : ∀ y ∈ scope.names, y.2 = .free → X.env.scope.names.lookup y.1 = some .cell ∨ X.env.scope.names.lookup y.1 = some .free) :
    PE X (.Lambda params body scope pos) (tLamM T (fun c' => ⟨"<lambda>", X.env.qual ++ "<lambda>", params, [], scope, cloFrom X.env.cells scope.names [], c'⟩) body) := by
  refine ⟨fun pins s σ H Q I h => ?_⟩
  obtain ⟨hT, k⟩ := h
  obtain ⟨ps, hP, ht, ha⟩ := hT _ hm
  have hfr : ∀ y ∈ scope.names, y.2 = .free → ∃ c, X.env.cells.lookup y.1 = some c := fun y hy e => (hfree y hy e).elim (fun z => I.ok.has _ (.inl z)) fun z => I.ok.has _ (.inr z)
  refine PySem.W.kla_eval hdef ?_
  have bP : s.heap.BuiltinsAt X.mg P := TB.bm.keeps I.bk
  have oP : s.heap.get? P = some { cls := .none, data := .fields ps } := I.hok P _ hP
  cases hc : codeAmong pos ps.toList with
  | none =>
    refine PySem.W.kla_makeFunction (mg := X.mg) (c := c) (P := P) (ps := ps) (closure_ok hfr) I.ok.glob (I.mod.glob.keeps I.bk) hcode (TB.code.keeps I.bk) oP ht hc TB.gP bP fun c' ctv h' tk hx hge hlt hrec htb => ?_
    obtain ⟨c2, oc, vs, t, e2, hoc, hd, hv⟩ := hrec
    cases e2
    have nC : H c' = Option.none := I.hok.fresh hge
    have I1 := inv_table (q := X.env.qual ++ "<lambda>") (t' := tk) (more := #[rawInt pos.line, rawInt pos.col, .ref c']) (h' := h') I hP (fun b o hb e => hx b o hb e) htb hge ⟨oc, vs, t, hoc, hd, hv⟩
    have hE : ExtN H (upd (upd H P (.tbl (ps ++ #[rawInt pos.line, rawInt pos.col, .ref c']))) c' (CodeO c' (X.env.qual ++ "<lambda>"))) := fun b o e n => by
      rw [upd_ne (ne_of_none e nC), upd_ne (fun z => n ps (Option.some.inj (e.symm.trans (by rw [z]; exact hP))))]
      exact e
    have eL : (ps ++ #[rawInt pos.line, rawInt pos.col, .ref c']).toList = ps.toList ++ [rawInt pos.line, rawInt pos.col, .ref c'] := by simp
    have T1 : Tabs T (upd (upd H P (.tbl (ps ++ #[rawInt pos.line, rawInt pos.col, .ref c']))) c' (CodeO c' (X.env.qual ++ "<lambda>"))) := fun p hp => by
      by_cases hb : p.1 = P
      · rw [hu p hp hb, hb]
        refine ⟨_, by rw [upd_ne (ne_of_none hP nC), upd_same], by rw [eL]; exact PySem.TriplesOk_snoc _ _ _ _ ht, fun p' cv hcv => ?_⟩
        rw [eL] at hcv
        rcases among_app _ ht hcv with z | z
        · obtain ⟨c0, z1, z2⟩ := ha p' cv z
          exact ⟨c0, z1, hE _ _ z2 codeO_ne⟩
        · exact ⟨c', z, upd_same⟩
      · obtain ⟨ps', z1, z2, z3⟩ := hT p hp
        refine ⟨ps', by rw [upd_ne (ne_of_none z1 nC), upd_ne hb]; exact z1, z2, fun p' cv hcv => ?_⟩
        obtain ⟨c0, y1, y2⟩ := z3 p' cv hcv
        exact ⟨c0, y1, hE _ _ y2 codeO_ne⟩
    have nF := I1.hok.fresh (Nat.le_refl _)
    have I2 := inv_lam (F := ⟨"<lambda>", X.env.qual ++ "<lambda>", params, [], scope, cloFrom X.env.cells scope.names [], c'⟩) (body := body) (t' := tk) (pm := (X.mg "__name__").getD .none) (ctv := ctv) I1 rfl
    refine ⟨.ref h'.objs.size, _, I2, rfl, k h'.objs.size c' _ (fun b o e n => ?_) (fun b e => upd_none (upd_none (upd_none e))) (T1.ext fun b o e => ?_) (I.hok.fresh (Nat.le_trans hge (Nat.le_of_lt hlt))) upd_same ?_⟩
    · have e1 := hE b o e n
      exact (upd_ne (ne_of_none e1 nF)).trans e1
    · exact (upd_ne (ne_of_none e nF)).trans e
    · exact (upd_ne (Nat.ne_of_lt hlt)).trans upd_same
  | some cv =>
    obtain ⟨c', e, hco⟩ := ha pos cv hc
    subst e
    refine PySem.W.kla_makeFunctionHit (mg := X.mg) (c := c) (P := P) (ps := ps) (closure_ok hfr) I.ok.glob (I.mod.glob.keeps I.bk) hcode (TB.code.keeps I.bk) oP ht hc bP fun ctv h' tk hx hsz => ?_
    have I1 : Inv X pins σ H { s with heap := h', toks := tk } := I.kept hx
    have nF : H h'.objs.size = Option.none := I1.hok.fresh (Nat.le_refl _)
    have I2 := inv_lam (F := ⟨"<lambda>", X.env.qual ++ "<lambda>", params, [], scope, cloFrom X.env.cells scope.names [], c'⟩) (body := body) (t' := tk) (pm := (X.mg "__name__").getD .none) (ctv := ctv) I1 rfl
    refine ⟨.ref h'.objs.size, _, I2, rfl, k h'.objs.size c' _ (fun b o e n => (upd_ne (ne_of_none e nF)).trans e) (fun b e => upd_none e) (hT.ext fun b o e => (upd_ne (ne_of_none e nF)).trans e) nF upd_same ((upd_ne (ne_of_none hco nF)).trans hco)⟩
end
/-! ### what a lambda promises, its call -/
structure LOk (P : Program) (w : World) (K : PySem.W.Frag) (mg : Str → Option Value) (base : Heap) (k : Nat) (f : Addr) (F : NF) (body : Expr) (sp : Sp) : Prop where
  run : ∀ (A : Around) (outer : List Env) (s : Shared) (H : Hp) (us : List Value) (vs : List V) (Q : VK), Room k A → Env0 P w K mg base A outer s H → H f = some (LamO f F body) → H F.c = some (CodeO F.c F.qual) → Vals vs us → sp vs H Q E0 →
    codeAny (model P w) A (.call (.ref f) ⟨us, []⟩) (CR CX0 outer P w H s Q E0) s
section
variable {P : Program} {w : World} {K : PySem.W.Frag} {mg : Str → Option Value} {base : Heap} {N ps : List Str} {F : NF} {body : Expr} {f : Addr} {k : Nat} {sp : Sp}
/-- of a lambda that captures nothing, by its body -/
theorem lok_of (S : NScope N ps [] F.scope) (hcl : F.cl = []) (hb : ∀ (pm ctv : Value) (us : List Value), us.length = ps.length → bindArgs (PySem.W.kla_fn F.name F.qual F.params body F.scope F.cl pm (.ref F.c) ctv) ⟨us, []⟩ = pure (ps.zip us)) (len : ∀ vs H Q E, sp vs H Q E → vs.length = ps.length)
    (hbody : ∀ (A : Around) (outer : List Env) (s : Shared) (H : Hp) (vs : List V) (Q : VK), Room k (A.deeper (envF F f s.heap.objs.size)) → sp vs H Q E0 → ∃ t, PE (ncx CX0 P w K mg base N F f A outer s H E0) body t ∧ t (startF N vs []) H Q) : LOk P w K mg base (k + 1) f F body sp := by
  refine ⟨fun A outer s H us vs Q hr e0 hf hc r hsp => ?_⟩
  have hl := len _ _ _ _ hsp
  have lim : s.heap.NoLimit := e0.mod.nolimit.keeps fun b o e => (e0.bs b o e).1
  obtain ⟨od, sl, pm, ctv, ho⟩ := lamO_at e0.hok hf
  refine PySem.W.kla_callFunE hr.depth ho rfl S.co S.gen rfl (codeO_at e0.hok hc) ?_
  rw [hb pm ctv us (by rw [← r.length]; exact hl)]
  refine wpAny_pure (wpAny_newFunctionEnv S.nocell (fun ⟨n, _⟩ hy => S.par n (List.of_mem_zip hy).1) (fun h₁ hns hsb => ⟨lim.fresh _ hsb, ?_⟩) S.kind)
  show codeAny _ _ (.expr body (envF F f s.heap.objs.size)) _ _
  have kp : ∀ b o, s.heap.get? b = some o → h₁.get? b = some o := fun b o e => hsb.extBut b o (Nat.ne_of_lt (Heap.lt_size e)) (Heap.get?_push_of_some _ e)
  have C : CellsAt F.cl [] [] s.heap H := by
    rw [hcl]
    exact ⟨rfl, fun y c e => (nomatch e), fun x y c e => (nomatch e), fun i y e => by simp at e⟩
  have J : Inv (ncx CX0 P w K mg base N F f A outer s H E0) [] (startF N vs []) H { s with heap := h₁, toks := s.toks + (ps.zip us).length } := inv_startN S hr.hd e0 hl r C hns kp
  obtain ⟨t, ht, hq⟩ := hbody A outer s H vs Q (hr.deeper _) hsp
  refine PySem.W.kla_codeExpr (wpAny_mono (ht.run [] _ (startF N vs []) H Q J hq) (fun v s' hv => ?_) fun e s' hv => hv)
  obtain ⟨x, H', J', rv, q⟩ := hv
  exact ⟨x, H', J'.os, J'.bare, J'.base, J'.hok, rv, q⟩
end
section
variable {X : Cx}
theorem lamAt_of {pins : List (Addr × Obj)} {σ : L2.St} {H : Hp} {s : Shared} {f : Addr} {F : NF} {body : Expr} (I : Inv X pins σ H s) (e : H f = some (LamO f F body)) : PySem.W.FnAt f s.heap := by
  obtain ⟨od, sl, pm, ctv, ho⟩ := lamO_at I.hok e
  exact ⟨_, _, _, _, ho⟩
/-- x(e, ..), the name x holds a lambda -/
def tCallL (P : Program) (w : World) (K : PySem.W.Frag) (mg : Str → Option Value) (base : Heap) (k i : Nat) (t : TA) : TE := fun σ H Q => ∃ (f : Addr) (F : NF) (body : Expr) (sp : Sp), σ[i]? = some (some (.ref f)) ∧ H f = some (LamO f F body) ∧ LOk P w K mg base k f F body sp ∧
  t σ H fun vs H1 => H1 f = some (LamO f F body) ∧ H1 F.c = some (CodeO F.c F.qual) ∧ sp vs H1 Q E0
theorem pe_callL {k i : Nat} {x : Str} {p pos : Pos} {e : Expr} {es : List Expr} {t : TA} (hr : Room k X.A) (hN : X.N[i]? = some x) (hv : Vis X.env.scope x) (ha : PA X (e :: es) t)
    (hd : (x == ("__debug__" : Str)) = false := by decide) (hcd : (x == ("__classdict__" : Str)) = false := by decide)
    (he : starEach (e :: es) X.env = (false, eval e X.env) :: starEach es X.env := by rfl) (hpl : (backTo pos (starEach es X.env)).any (·.1) = false := by rfl) :
    PE X (.Call (.Name x p) (e :: es) [] pos) (tCallL X.prog X.w X.K X.mg X.base k i t) := by
  refine ⟨fun pins s σ H Q I h => ?_⟩
  obtain ⟨f, F, body, sp, hs, hf, L, ht⟩ := h
  refine wpAny_Call_Name_kw (thn ((pe_var (pos := p) hN hv hd hcd).run pins s σ H (fun v H1 => v = .ref f ∧ H1 = H) I ⟨.ref f, hs, rfl, rfl⟩) fun u s1 ⟨v, H1, I1, r1, ev, eH⟩ => ?_)
  subst ev
  rw [eH] at I1
  obtain rfl : u = Value.ref f := r1
  refine PySem.W.callWith_F (first := []) (lamAt_of I1 hf) (thn (ha.run pos pins s1 σ H _ I1 ht) fun us s2 ⟨vs, H2, I2, r, h1, h2, q⟩ => ⟨lamAt_of I2 h1, ?_⟩) he hpl
  show wpAny _ _ (call (.ref f) us) _ _ _
  refine wpAny_call (codeAny_mono (L.run X.A X.stack s2 H2 us vs Q hr I2.env0 h1 h2 r q) fun r2 s' hq => ?_)
  cases r2 with
  | error er => exact (show False from hq).elim
  | ok fl =>
    cases fl with
    | ret u => exact I2.after hq
    | next => exact False.elim hq
    | brk => exact False.elim hq
    | cont => exact False.elim hq
end
end TBX

set_option Elab.async false
set_option linter.all false
set_option maxRecDepth 100000
set_option maxHeartbeats 8000000
namespace TBX
open PySem PySem.Spec PyProof.Rows L2 LamX NdefX
/-! ### defs that are called where no repr runs -/
structure FnG (P : Program) (w : World) (K : PySem.W.Frag) (mg : Str → Option Value) (base : Heap) (k : Nat) (f : Addr) (fd : FuncData) (ps : List Str) (sp : Sp) : Prop where
  len : ∀ vs H Q E, sp vs H Q E → vs.length = ps.length
  run : ∀ (A : Around) (outer : List Env) (s : Shared) (H : Hp) (args : Args) (us : List Value) (vs : List V) (Q : VK), A.guards = some [] → Room k A → Env0 P w K mg base A outer s H → BindsTo s fd args (ps.zip us) → Vals vs us → sp vs H Q E0 →
    codeAny (model P w) A (.call (.ref f) args) (CR CX0 outer P w H s Q E0) s
section
variable {P : Program} {w : World} {K : PySem.W.Frag} {mg : Str → Option Value} {base : Heap} {x qual : Str} {params : Arguments} {body : List Stmt} {scope : Scope} {f : Addr} {fd : FuncData} {dvs : List V} {kws : List (Str × V)}
theorem fng_of {N ps : List Str} {k : Nat} {sp : Sp} (F : FunD K x qual params body scope dvs kws f fd) (S : FnScope N ps scope) (len : ∀ vs H Q E, sp vs H Q E → vs.length = ps.length)
    (hbody : ∀ (cdv : Value) (A : Around) (outer : List Env) (s : Shared) (H : Hp) (vs : List V) (Q : VK), (cxOf CX0 P w K mg base N qual scope f cdv A outer s H E0).A.guards = some [] → Room k (A.deeper (envOfC qual scope s.heap.objs.size f cdv)) → sp vs H Q E0 →
      ∃ t, PSs (cxOf CX0 P w K mg base N qual scope f cdv A outer s H E0) body t ∧ t { nx := fun _ H' => Q .non H', rt := Q } (start N vs) H) : FnG P w K mg base (k + 1) f fd ps sp := by
  obtain ⟨oc, od, dV, kV, doc, pm, an, cdv, ct, osl, rfl, lk, hcd, _, _⟩ := F.ex
  refine ⟨len, fun A outer s H args us vs Q hg hr e0 hb r h => ?_⟩
  refine run_ofS (N := N) (ps := ps) lk hcd S hr e0 hb r (len _ _ _ _ h) fun hr' => ?_
  exact hbody cdv A outer s H vs Q (by show A.guards = some []; exact hg) hr' h
end
section
variable {X : Cx} {k : Nat} {f : Addr} {fd : FuncData} {ps : List Str} {sp : Sp} {x : Str} {p pos : Pos} {e : Expr} {es : List Expr} {t : TA}
theorem pe_callG (F : FnG X.prog X.w X.K X.mg X.base k f fd ps sp) (hG : X.A.guards = some []) (hr : Room k X.A) (hg : Gl X x) (hm : X.mg x = some (.ref f)) (hk : PySem.W.keepIn X.K (.ref f) = true) (hb : L2.Binds X.K fd ps [])
    (ha : PA X (e :: es) t) (hdb : (x == ("__debug__" : Str)) = false := by decide) (he : starEach (e :: es) X.env = (false, eval e X.env) :: starEach es X.env := by rfl) (hpl : (backTo pos (starEach es X.env)).any (·.1) = false := by rfl) :
    PE X (.Call (.Name x p) (e :: es) [] pos) (tCall sp [] E0 t) := by
  refine ⟨fun pins s σ H Q I h => ?_⟩
  refine wpAny_Call_Name_kw (ld_glob I hg hm ?_ hdb)
  refine PySem.W.callWith_K (h₀ := X.base) I.ok.mod.kin hk (thn (ha.run pos pins s σ H _ I h) fun us s1 ⟨vs, H1, I1, r, q⟩ => ⟨I1.kIn, ?_⟩) he hpl
  have q : sp (vs ++ []) H1 Q E0 := q
  rw [List.append_nil] at q
  show wpAny _ _ (call (.ref f) us) _ _ _
  have hl : (us ++ []).length = ps.length := by
    rw [List.append_nil, ← r.length]
    exact F.len _ _ _ _ q
  have hb1 := hb s1 us I1.kIn hl
  rw [List.append_nil] at hb1
  refine wpAny_call (codeAny_mono (F.run X.A X.stack s1 H1 ⟨us, []⟩ us vs Q hG hr I1.env0 hb1 r q) fun r2 s' hq => ?_)
  cases r2 with
  | error er => exact (show False from hq).elim
  | ok fl =>
    cases fl with
    | ret u => exact I1.after hq
    | next => exact False.elim hq
    | brk => exact False.elim hq
    | cont => exact False.elim hq
end
/-! ### repr of nested data -/
mutual
inductive Rp (H : Hp) : V → PyData → Prop
  | non : Rp H .non .none
  | bl (b : Bool) : Rp H (.bl b) (.bool b)
  | int (i : Int) : Rp H (.int i) (.int i)
  | str (x : Str) : Rp H (.str x) (.str x)
  | lst {a : Addr} {xs : List V} {ds : List PyData} : H a = some (.lst xs) → RpAll H xs ds → Rp H (.ref a) (.list ds)
  | tup {a : Addr} {xs : List V} {ds : List PyData} : H a = some (.tup xs) → RpAll H xs ds → Rp H (.ref a) (.tuple ds)
  | dic {a : Addr} {x : Str} {i : Int} : H a = some (.dK [(.inr x, .int i)]) → Rp H (.ref a) (.dict [(.str x, .int i)])
inductive RpAll (H : Hp) : List V → List PyData → Prop
  | nil : RpAll H [] []
  | cons {v : V} {vs : List V} {d : PyData} {ds : List PyData} : Rp H v d → RpAll H vs ds → RpAll H (v :: vs) (d :: ds)
end
section
variable {X : Cx} {pins : List (Addr × Obj)} {σ : L2.St} {H : Hp} {s : Shared}
mutual
theorem Rp.reads (I : Inv X pins σ H s) : ∀ (d : PyData) (v : V) (u : Value), Rp H v d → L2.RelV v u → ∃ as, Reads s.heap u d as ∧ ∀ b ∈ as, H b ≠ Option.none
  | .none, _, _, h, r => by
    cases h
    cases r
    exact ⟨_, Reads.none, fun b hb => by cases hb⟩
  | .bool b, _, _, h, r => by
    cases h
    cases r
    exact ⟨_, Reads.bool b, fun b hb => by cases hb⟩
  | .int i, _, _, h, r => by
    cases h
    obtain ⟨t, rfl⟩ := r
    exact ⟨_, Reads.int i t, fun b hb => by cases hb⟩
  | .str x, _, _, h, r => by
    cases h
    obtain ⟨t, rfl⟩ := r
    exact ⟨_, Reads.str x t, fun b hb => by cases hb⟩
  | .list ds, _, _, h, r => by
    cases h with
    | lst hs ha =>
      cases r
      obtain ⟨z, its, n, rv, ho⟩ := I.hok _ _ hs
      obtain ⟨as, hr, hm⟩ := Rp.readsAll I ds _ its ha rv
      refine ⟨_, Reads.list ho rfl rfl hr, fun b hb => ?_⟩
      rcases List.mem_cons.mp hb with e | hb
      · rw [e, hs]
        exact fun z => nomatch z
      · exact hm b hb
  | .tuple ds, _, _, h, r => by
    cases h with
    | tup hs ha =>
      cases r
      obtain ⟨z, its, rv, o, ho, hc, n, hd⟩ := I.hok _ _ hs
      obtain ⟨as, hr, hm⟩ := Rp.readsAll I ds _ its ha rv
      exact ⟨_, Reads.tuple ho hc hd hr, hm⟩
  | .dict kvs, _, _, h, r => by
    cases h with
    | @dic a x i hs =>
      cases r
      obtain ⟨z, ns, vs, rv, o, es, ep, ho, hx, hd, hk, hp, hn⟩ := I.hok _ _ hs
      cases rv with
      | @cons q p qs ps rq rr =>
        cases rr
        obtain ⟨kk, v⟩ := p
        obtain ⟨e1, t2, e2⟩ := rq
        dsimp only at e1 e2
        subst e1 e2
        generalize hes : es.toList = l at hp
        generalize hkv : [((Sum.inr x : Key), Value.int i t2)] = kv at hp
        cases hp with
        | nil => cases hkv
        | @cons en kv2 es2 kvs2 h1 h0 h2 =>
          have e3 := List.cons.inj hkv
          rw [← e3.1] at h1 h0
          obtain ⟨t3, e5⟩ := Value.isStrOf_shape (x := x) (v := en.key) h1
          have e6 : es2 = [] := by
            rw [← e3.2] at h2
            cases h2
            rfl
          subst e6
          refine ⟨[_] ++ [] ++ [], Reads.dict (as := []) (bs := []) ho hx.1 hd ?_ ?_, fun b hb => ?_⟩
          · rw [hes]
            show ReadsAll _ [en.key] [PyData.str x] []
            rw [e5]
            exact ReadsAll.cons (as := []) (Reads.str x t3) ReadsAll.nil
          · rw [hes]
            show ReadsAll _ [en.val] [PyData.int i] []
            rw [h0]
            exact ReadsAll.cons (as := []) (Reads.int i t2) ReadsAll.nil
          · have e7 : b = a := by simpa using hb
            rw [e7, hs]
            exact fun z => nomatch z
theorem Rp.readsAll (I : Inv X pins σ H s) : ∀ (ds : List PyData) (vs : List V) (us : List Value), RpAll H vs ds → Vals vs us → ∃ as, ReadsAll s.heap us ds as ∧ ∀ b ∈ as, H b ≠ Option.none
  | [], _, _, h, r => by
    cases h
    cases r
    exact ⟨_, ReadsAll.nil, fun b hb => by cases hb⟩
  | d :: ds, _, _, h, r => by
    cases h with
    | cons h1 h2 =>
      cases r with
      | cons r1 r2 =>
        obtain ⟨as, q1, m1⟩ := Rp.reads I d _ _ h1 r1
        obtain ⟨bs, q2, m2⟩ := Rp.readsAll I ds _ _ h2 r2
        refine ⟨_, ReadsAll.cons q1 q2, fun b hb => ?_⟩
        rcases List.mem_append.mp hb with hb | hb
        · exact m1 b hb
        · exact m2 b hb
end
def rReprD : List V → Hp → VK → Prop := fun xs H Q => ∃ (a : Addr) (d : PyData), xs = [.ref a] ∧ Rp H (.ref a) d ∧ d.showable = true ∧ d.depth ≤ 60 ∧ d.shown.length ≤ sizeLine ∧ Q (.str d.shown) H
theorem call_reprD (hG : X.A.guards = some []) (hu : X.A.units + 64 < cLine) (hS : ∃ o, X.K.lookup sysModules = some o) : CallR X (.builtin "repr") rReprD := by
  intro pins s σ H xs us Q I r h
  obtain ⟨a, d, rfl, hd, h1, h2, h3, q⟩ := h
  obtain ⟨u1, rfl, r1⟩ := vals1 r
  obtain rfl : u1 = Value.ref a := r1
  obtain ⟨as, hr, hm⟩ := Rp.reads I d _ _ hd rfl
  obtain ⟨o, ho⟩ := hS
  have hn : H sysModules = Option.none := (I.bs _ _ (I.mod.kin _ _ ho)).2
  exact repr_of_reads' hr h1 (fun _ z => hm _ z hn) hG (by omega) (fun _ _ z => z) (fun h' u tk hk => ⟨.str d.shown, H, I.kept (h' := h') (t' := tk) hk, ⟨_, rfl⟩, q⟩) h3
end
end TBX

set_option Elab.async false
set_option linter.all false
set_option maxRecDepth 100000
set_option maxHeartbeats 0
namespace TBX
open PySem PySem.Spec PyProof.Rows L2 TB

/-! ### the errors: names, fields -/
def rows0 : List (PySem.Str × List PySem.Str) := [("BadBook", (["thing"] : List PySem.Str)),
  ("BadDeed", (["index"] : List PySem.Str)),
  ("BadEnds", (["index"] : List PySem.Str)),
  ("BadFile", (["fault"] : List PySem.Str)),
  ("BadFormat", (["thing"] : List PySem.Str)),
  ("BadInput", (["thing"] : List PySem.Str)),
  ("BadKey", (["thing"] : List PySem.Str)),
  ("BadLength", (["thing"] : List PySem.Str)),
  ("BadLine", (["line"] : List PySem.Str)),
  ("BadLoaded", (["thing"] : List PySem.Str)),
  ("BadMachine", (["thing"] : List PySem.Str)),
  ("BadName", (["thing"] : List PySem.Str)),
  ("BadNames", (["thing"] : List PySem.Str))]
def rows1 : List (PySem.Str × List PySem.Str) := [("BadNumber", (["thing"] : List PySem.Str)),
  ("BadOctets", (["index"] : List PySem.Str)),
  ("BadOther", (["thing"] : List PySem.Str)),
  ("BadPaper", (["thing"] : List PySem.Str)),
  ("BadPiece", (["thing"] : List PySem.Str)),
  ("BadPlace", (["thing"] : List PySem.Str)),
  ("BadPlain", (["thing"] : List PySem.Str)),
  ("BadReader", (["thing"] : List PySem.Str)),
  ("BadRecord", (["thing"] : List PySem.Str)),
  ("BadRecords", (["index"] : List PySem.Str)),
  ("BadSaved", (["thing"] : List PySem.Str)),
  ("BadScript", (["index"] : List PySem.Str)),
  ("BadSecond", (["thing"] : List PySem.Str))]
def rows2 : List (PySem.Str × List PySem.Str) := [("BadSigns", (["thing"] : List PySem.Str)),
  ("BadSize", (["thing"] : List PySem.Str)),
  ("BadSteps", (["index"] : List PySem.Str)),
  ("BadTable", (["thing"] : List PySem.Str)),
  ("BadText", (["line", "column", "what"] : List PySem.Str)),
  ("Clash", (["name"] : List PySem.Str)),
  ("Done", ([] : List PySem.Str)),
  ("Doubtful", (["text"] : List PySem.Str)),
  ("Full", (["many"] : List PySem.Str)),
  ("Moved", (["name", "why"] : List PySem.Str)),
  ("NoAgain", ([] : List PySem.Str)),
  ("NoBack", ([] : List PySem.Str)),
  ("NoReader", ([] : List PySem.Str))]
def rows3 : List (PySem.Str × List PySem.Str) := [("NoWay", (["index"] : List PySem.Str)),
  ("NotOneWay", ([] : List PySem.Str)),
  ("NotRead", (["text"] : List PySem.Str)),
  ("NotThere", (["key"] : List PySem.Str)),
  ("NotToldApart", ([] : List PySem.Str)),
  ("NotTrim", (["stand"] : List PySem.Str)),
  ("NotWatched", (["key"] : List PySem.Str)),
  ("NotWhole", ([] : List PySem.Str)),
  ("OtherSigns", ([] : List PySem.Str)),
  ("Refused", (["what"] : List PySem.Str)),
  ("There", (["key"] : List PySem.Str)),
  ("TooMany", (["many"] : List PySem.Str)),
  ("Watched", (["key"] : List PySem.Str))]
def rowsE : List (PySem.Str × List PySem.Str) := rows0 ++ rows1 ++ rows2 ++ rows3
def baseE : PySem.Str × List PySem.Str := ("WriteError", [])
def nm (i : Nat) : PySem.Str := (rowsE.getD i baseE).1
def fl (i : Nat) : List PySem.Str := (rowsE.getD i baseE).2
def initOf (i : Nat) : Stmt := inClass (top (i + 2)) 0

/-! ### the head's looks at the classes -/
def oexB (K : PySem.W.Frag) (C : Addr) : Bool := match K.lookup C with
  | some ⟨.type "type", _, .cls cd, sl⟩ => (match cd.mro, sl.toList with
    | .ref C' :: bm, [_, _, _, _, some (.builtin n), _] => C' == C && (n == "ValueError.__new__" && (!cd.hasDel && (cd.hasDict && PySem.HandSPX.refsVE (.ref C' :: bm))))
    | _, _ => false)
  | _ => false
theorem oexB_ok {K : PySem.W.Frag} {C : Addr} (h : oexB K C = true) : ∃ nm q N bs bm sn sub ab col dd k0 k1 k2 k3 k5, K.lookup C = some (excClassObj nm q C N bs bm true sn sub ab col dd k0 k1 k2 k3 k5 "ValueError.__new__") ∧ PySem.HandSPX.refsVE bm = true := by
  unfold oexB at h
  split at h
  · rename_i dd cd sl ho
    split at h
    · rename_i C' bm k0 k1 k2 k3 n k5 hm hs
      simp only [Bool.and_eq_true, beq_iff_eq, Bool.not_eq_true'] at h
      obtain ⟨rfl, rfl, hdel, hdict, hv⟩ := h
      obtain ⟨nm, bs, mro, ns, qn, hd, sn, sub, ab, col, del⟩ := cd
      dsimp only at hm hdel hdict
      subst hm hdel hdict
      have hsl : sl = #[k0, k1, k2, k3, some (.builtin "ValueError.__new__"), k5] := by
        obtain ⟨l⟩ := sl
        simp only at hs
        rw [hs]
      subst hsl
      exact ⟨nm, qn, ns, bs, bm, sn, sub, ab, col, dd, k0, k1, k2, k3, k5, ho, hv⟩
    · cases h
  · cases h
/-- a class's looks: its facts, its __init__, no attribute of its fields' names -/
def errB (K : PySem.W.Frag) (r : PySem.Str × List PySem.Str) : Bool := oexB K (He.ga K r.1) && ((PySem.W.clsIn K (He.ga K r.1)).isSome && (PySem.W.hasDictIn K (He.ga K r.1) &&
  (He.eqO (PySem.W.findIn K (.ref (He.ga K r.1)) "__getattribute__") (some (some (.builtin "BaseException.__getattribute__"))) && (He.eqO (PySem.W.findIn K (.ref (He.ga K r.1)) "__getattr__") (some none) &&
  (He.eqO (PySem.W.findIn K (.ref (He.ga K r.1)) "__class__") (some (some (.builtin "object.__class__"))) && (decide (PySem.W.mroIn K (He.ga K r.1) (.type "object") = some true) &&
  (He.eqO (PySem.W.findIn K (.ref (He.ga K r.1)) "__setattr__") (some (some (.builtin "object.__setattr__"))) && (decide (PySem.W.subIn K (.ref (He.ga K r.1)) (.type "BaseException") = some true) &&
  (decide (PySem.W.typeIn K (.ref (He.ga K r.1)) = some (.type "type")) && (PySem.W.keepIn K (.ref (He.ga K r.1)) && (He.eqO (PySem.W.nsIn K mainGlobals r.1) (some (some (.ref (He.ga K r.1)))) &&
  ((match r.2 with
    | [] => He.eqO (PySem.W.findIn K (.ref (He.ga K r.1)) "__init__") (some (some (.builtin "ValueError.__init__")))
    | _ :: _ => He.eqO (PySem.W.findIn K (.ref (He.ga K r.1)) "__init__") (some (some (.ref (He.ma K (He.ga K r.1) "__init__")))) && decide (PySem.W.typeIn K (.ref (He.ma K (He.ga K r.1) "__init__")) = some (.type "function"))) &&
  r.2.all fun f => He.eqO (PySem.W.findIn K (.ref (He.ga K r.1)) f) (some none)))))))))))))
/-- a class's mro: itself, the base, what is above -/
def mroB (K : PySem.W.Frag) (W C : Addr) : Bool := match PySem.W.clsIn K C with
  | some cd => decide (cd.mro = [.ref C, .ref W, .type "ValueError", .type "Exception", .type "BaseException", .type "object"])
  | none => false
def apart : List Addr → Bool
  | [] => true
  | a :: r => r.all (fun b => !(Nat.beq a b)) && apart r
def adrs (K : PySem.W.Frag) : List (PySem.Str × List PySem.Str) → List Addr
  | [] => []
  | r :: l => He.ga K r.1 :: adrs K l
def forceL {α : Type} : List Addr → List Addr → (List Addr → α) → α
  | [], acc, k => k acc
  | a :: r, acc, k => HandSHeadRun.frNat a fun a => forceL r (a :: acc) k
theorem forceL_eq {α : Type} (k : List Addr → α) : ∀ (l acc : List Addr), forceL l acc k = k (l.reverse ++ acc)
  | [], acc => rfl
  | a :: r, acc => by
    show HandSHeadRun.frNat a (fun a => forceL r (a :: acc) k) = _
    rw [HandSHeadRun.frNat_eq, forceL_eq k r (a :: acc), List.reverse_cons, List.append_assoc]
    rfl
def classesB (K : PySem.W.Frag) : Bool := forceL (adrs K (baseE :: rowsE)) [] fun l => apart l && (match l.reverse with
  | W :: cs => cs.all (mroB K W)
  | [] => false)
def tabB3 (K : PySem.W.Frag) : Bool := apart [(He.cT K ("_law_made_a", none)).2, (He.cT K ("_law_made_b", none)).2, (He.cT K ("_law_made_c", none)).2]
def exB (K : PySem.W.Frag) : Bool := tabB3 K && ((K.lookup sysModules).isSome && (He.eqO (PySem.W.specialIn K (.builtin "object.__class__") "__get__") (some (some (.builtin "getset_descriptor.__get__"))) && (decide (PySem.W.takesIn K (.builtin "object.__class__") = some true) &&
  (errB K baseE && (decide ((PySem.W.clsIn K (He.ga K "WriteError")).map (·.mro) = some [.ref (He.ga K "WriteError"), .type "ValueError", .type "Exception", .type "BaseException", .type "object"]) && (rowsE.all (errB K) && classesB K))))))
/-! ### the defs -/
def d_law_start : He.DefD := ⟨("_law_start", none), "_law_start", "_law_start", defArgs (top 55), defBody (top 55), defScope (top 55), [], []⟩
def d_law_below : He.DefD := ⟨("_law_below", none), "_law_below", "_law_below", defArgs (top 56), defBody (top 56), defScope (top 56), [], []⟩
def d_law_mixed : He.DefD := ⟨("_law_mixed", none), "_law_mixed", "_law_mixed", defArgs (top 57), defBody (top 57), defScope (top 57), [], []⟩
def d_law_made_a : He.DefD := ⟨("_law_made_a", none), "_law_made_a", "_law_made_a", defArgs (top 58), defBody (top 58), defScope (top 58), [], []⟩
def d_law_made_b : He.DefD := ⟨("_law_made_b", none), "_law_made_b", "_law_made_b", defArgs (top 59), defBody (top 59), defScope (top 59), [], []⟩
def d_law_made_c : He.DefD := ⟨("_law_made_c", none), "_law_made_c", "_law_made_c", defArgs (top 60), defBody (top 60), defScope (top 60), [], []⟩
def d_law_kinds_a : He.DefD := ⟨("_law_kinds_a", none), "_law_kinds_a", "_law_kinds_a", defArgs (top 61), defBody (top 61), defScope (top 61), [], []⟩
def d_law_kinds_b : He.DefD := ⟨("_law_kinds_b", none), "_law_kinds_b", "_law_kinds_b", defArgs (top 62), defBody (top 62), defScope (top 62), [], []⟩
def d_law_kinds_c : He.DefD := ⟨("_law_kinds_c", none), "_law_kinds_c", "_law_kinds_c", defArgs (top 63), defBody (top 63), defScope (top 63), [], []⟩
def d_law_kinds : He.DefD := ⟨("_law_kinds", none), "_law_kinds", "_law_kinds", defArgs (top 64), defBody (top 64), defScope (top 64), [], []⟩
def d_law_is_own : He.DefD := ⟨("_law_is_own", none), "_law_is_own", "_law_is_own", defArgs (top 65), defBody (top 65), defScope (top 65), [], []⟩
def d_law_are_these : He.DefD := ⟨("_law_are_these", none), "_law_are_these", "_law_are_these", defArgs (top 66), defBody (top 66), defScope (top 66), [], []⟩
def dlaw : He.DefD := ⟨("law", none), "law", "law", defArgs (top 67), defBody (top 67), defScope (top 67), [], []⟩
def dInit (i : Nat) : He.DefD := ⟨(nm i, some "__init__"), "__init__", nm i ++ ".__init__", defArgs (initOf i), defBody (initOf i), defScope (initOf i), [], []⟩
def inits : List Nat := [0, 1, 2, 3, 4, 5, 6, 7, 8, 9, 10, 11, 12, 13, 14] ++ [15, 16, 17, 18, 19, 20, 21, 22, 23, 24, 25, 26, 27, 28, 29] ++ [30, 31, 33, 34, 35, 39, 41, 42, 44, 45, 48, 49, 50, 51]
def fns : List He.DefD := [d_law_start, d_law_below, d_law_mixed, d_law_made_a, d_law_made_b, d_law_made_c, d_law_kinds_a, d_law_kinds_b, d_law_kinds_c, d_law_kinds, d_law_is_own, d_law_are_these, dlaw] ++ inits.map dInit
def fas : List He.Fa := [.glo "_law_start", .glo "_law_below", .glo "_law_mixed", .glo "_law_made_a", .glo "_law_made_b", .glo "_law_made_c", .glo "_law_kinds_a", .glo "_law_kinds_b", .glo "_law_kinds_c", .glo "_law_kinds", .glo "_law_is_own", .glo "_law_are_these"] ++ [.glo "law", .free "list", .free "len", .free "range", .free "int", .free "isinstance", .free "repr", .free "enumerate", .free "ValueError", .free "LookupError", .free "ArithmeticError", .free "TypeError"]
def tfs : List He.Defn := [("_law_made_a", none), ("_law_made_b", none), ("_law_made_c", none)]
def looseN : List PySem.Str := (["WriteError", "BadBook", "BadDeed", "BadEnds", "BadFile", "BadFormat", "BadInput", "BadKey", "BadLength", "BadLine", "BadLoaded", "BadMachine", "BadName", "BadNames"] : List PySem.Str) ++ (["BadNumber", "BadOctets", "BadOther", "BadPaper", "BadPiece", "BadPlace", "BadPlain", "BadReader", "BadRecord", "BadRecords", "BadSaved", "BadScript", "BadSecond", "BadSigns"] : List PySem.Str) ++ (["BadSize", "BadSteps", "BadTable", "BadText", "Clash", "Done", "Doubtful", "Full", "Moved", "NoAgain", "NoBack", "NoReader", "NoWay", "NotOneWay"] : List PySem.Str) ++ (["NotRead", "NotThere", "NotToldApart", "NotTrim", "NotWatched", "NotWhole", "OtherSigns", "Refused", "There", "TooMany", "Watched", "_law_start", "_law_below", "_law_mixed"] : List PySem.Str) ++ (["_law_made_a", "_law_made_b", "_law_made_c", "_law_kinds_a", "_law_kinds_b", "_law_kinds_c", "_law_kinds", "_law_is_own", "_law_are_these"] : List PySem.Str)

/-! ### the head's Hook: the written part with the modules' dict within -/
def goK {α : Type} (g : Addr → Option Obj) : Nat → PySem.W.Frag → (PySem.W.Frag → α) → α
  | 0, acc, k => k acc
  | m + 1, acc, k => match g m with
    | some o => (match He.emptyTab o with
      | true => goK g m acc k
      | false => goK g m ((m, o) :: acc) k)
    | none => goK g m acc k
def theK (g : Addr → Option Obj) (n : Nat) : PySem.W.Frag := goK g n [] id
theorem goK_eq {α : Type} {g : Addr → Option Obj} (k : PySem.W.Frag → α) : ∀ (n : Nat) (acc : PySem.W.Frag), goK g n acc k = k (goK g n acc id)
  | 0, acc => rfl
  | m + 1, acc => by
    unfold goK
    cases g m with
    | none => exact goK_eq k m acc
    | some o =>
      dsimp only
      cases He.emptyTab o with
      | true => exact goK_eq k m acc
      | false => exact goK_eq k m _
theorem goK_mem {g : Addr → Option Obj} : ∀ (n : Nat) (acc : PySem.W.Frag) (p : Addr × Obj), p ∈ goK g n acc id → p ∈ acc ∨ (g p.1 = some p.2 ∧ He.emptyTab p.2 = false)
  | 0, acc, p, h => .inl h
  | m + 1, acc, p, h => by
    unfold goK at h
    cases e : g m with
    | none =>
      rw [e] at h
      exact goK_mem m acc p h
    | some o =>
      rw [e] at h
      dsimp only at h
      cases q : He.emptyTab o with
      | true =>
        rw [q] at h
        exact goK_mem m acc p h
      | false =>
        rw [q] at h
        rcases goK_mem m _ p h with z | z
        · rcases List.mem_cons.mp z with z | z
          · rw [z]
            exact .inr ⟨e, q⟩
          · exact .inl z
        · exact .inr z
theorem theK_at {g : Addr → Option Obj} {n : Nat} {a : Addr} {o : Obj} (h : (theK g n).lookup a = some o) : g a = some o ∧ He.emptyTab o = false := by
  rcases goK_mem n [] (a, o) (He.lookup_mem h) with z | z
  · cases z
  · exact z
theorem theK_none {g : Addr → Option Obj} {n : Nat} {a : Addr} {o : Obj} (h : g a = some o) (ht : He.emptyTab o = true) : (theK g n).lookup a = none := by
  cases e : (theK g n).lookup a with
  | none => rfl
  | some u =>
    obtain ⟨h1, h2⟩ := theK_at e
    rw [h] at h1
    rw [← Option.some.inj h1, ht] at h2
    cases h2
def lookK (g : Addr → Option Obj) (K : PySem.W.Frag) : He.AlX := (He.obsT fas fns [] K, exB K && He.tabsB g tfs K)
def obsY (n : Nat) (g : Addr → Option Obj) : He.AlX := goK g n [] (lookK g)
theorem saysY_of {n : Nat} {w : World} {h : Heap} (e : obsY n h.get? = He.valX fns [] w) : He.SaysX fas fns [] tfs exB w h (theK h.get? n) := by
  have e0 : lookK h.get? (theK h.get? n) = He.valX fns [] w := (goK_eq (lookK h.get?) n []).symm.trans e
  have e1 : He.obsT fas fns [] (theK h.get? n) = He.valT fns [] w := congrArg (fun z : He.AlX => z.1) e0
  have e2 : (exB (theK h.get? n) && He.tabsB h.get? tfs (theK h.get? n)) = true := congrArg (fun z : He.AlX => z.2) e0
  obtain ⟨h1, h2⟩ := He.ba e2
  have key : ∀ p ∈ tfs, PySem.W.codeHdIn (theK h.get? n) (He.cT (theK h.get? n) p).1 (He.cT (theK h.get? n) p).2 = true ∧ ∃ o, h.get? (He.cT (theK h.get? n) p).2 = some o ∧ He.emptyTab o = true := fun p hp => by
    obtain ⟨h3, h4⟩ := He.ba (List.all_eq_true.mp h2 p hp)
    refine ⟨h3, ?_⟩
    generalize h.get? (He.cT (theK h.get? n) p).2 = z at h4 ⊢
    cases z with
    | none => cases h4
    | some o => exact ⟨o, rfl, h4⟩
  refine ⟨e1, h1, fun p hp => (key p hp).1, fun p hp => ?_, fun p hp => ?_⟩
  · obtain ⟨_, o, q, z⟩ := key p hp
    exact theK_none q z
  · obtain ⟨_, o, q, z⟩ := key p hp
    rw [q, He.emptyTab_eq z]
def hookY : PySem.W.Hook where
  α := He.AlX
  obs := fun s => obsY s.heap.objs.size s.heap.get?
  val := fun w => He.valX fns [] w
  says := fun w h => ∃ K : PySem.W.Frag, K.In h ∧ He.SaysX fas fns [] tfs exB w h K
  of := fun _ _ e => ⟨_, fun _ _ z => (theK_at z).1, saysY_of e⟩
  keeps := fun _ _ _ ⟨K, hK, c⟩ k => ⟨K, PySem.W.Frag.In.keeps hK k, ⟨c.t, c.more, c.hd, c.out, fun p hp => k _ _ (c.empty p hp)⟩⟩
abbrev R : PySem.W.OpenRow := PySem.W.OpenLaw.row PySem.Challenge.rw_tellback_k00_errors_made
def obY (s : PySem.W.SharedT) : He.AlX := obsY s.n (HandSHeadRun.getT s)
theorem obY_eq (s : PySem.W.SharedT) : obY s = hookY.obs s.abs := by
  have e : HandSHeadRun.getT s = s.abs.heap.get? := funext (HandSHeadRun.getT_eq s)
  show obsY s.n (HandSHeadRun.getT s) = obsY s.abs.heap.objs.size s.abs.heap.get?
  rw [e, show s.abs.heap.objs.size = s.n from PySem.W.absHeap_size _ _ _]

/-! ### the run, in parts: each part looks at the same end -/
noncomputable abbrev endY (w : World) (os : OsState) : Option PySem.W.SharedT := HandSHeadRun.endF (HandSHeadRun.stepQ (HandSHeadRun.denQ HandSHeadRun.tabQ) R.prog w) 14000 R.prog w os
def lookB {α : Type} (k : PySem.W.Frag → α) (s : PySem.W.SharedT) : α := goK (HandSHeadRun.getT s) s.n [] k
theorem lookB_eq {α : Type} (k : PySem.W.Frag → α) (s : PySem.W.SharedT) : lookB k s = k (theK (HandSHeadRun.getT s) s.n) := goK_eq k s.n []
def lookT {α : Type} (k : (Addr → Option Obj) → PySem.W.Frag → α) (s : PySem.W.SharedT) : α := goK (HandSHeadRun.getT s) s.n [] (k (HandSHeadRun.getT s))
theorem lookT_eq {α : Type} (k : (Addr → Option Obj) → PySem.W.Frag → α) (s : PySem.W.SharedT) : lookT k s = k (HandSHeadRun.getT s) (theK (HandSHeadRun.getT s) s.n) := goK_eq _ s.n []
def exB0 (K : PySem.W.Frag) : Bool := tabB3 K && ((K.lookup sysModules).isSome && (He.eqO (PySem.W.specialIn K (.builtin "object.__class__") "__get__") (some (some (.builtin "getset_descriptor.__get__"))) && (decide (PySem.W.takesIn K (.builtin "object.__class__") = some true) &&
  (errB K baseE && decide ((PySem.W.clsIn K (He.ga K "WriteError")).map (·.mro) = some [.ref (He.ga K "WriteError"), .type "ValueError", .type "Exception", .type "BaseException", .type "object"])))))
def lawFns : List He.DefD := fns.take 13
def iniFns : List He.DefD := fns.drop 13

end TBX

set_option Elab.async false
set_option linter.all false
set_option maxRecDepth 100000
set_option maxHeartbeats 0
namespace TBX
open PySem PySem.Spec PyProof.Rows L2 TB
theorem run_a (w : World) (os : OsState) : (endY w os).map (fun s => (HandSHeadRun.looksF R.prog (PySem.W.boot_heap w.params) s.abs, HandSHeadRun.seenQ (PySem.W.view R.prog [67]) looseN (importedModules R.prog.main.body) (fun s => PySem.W.xlAt (PySem.W.view R.prog [67]) [] s && PySem.W.recOk R.toRowW.records s) s.abs)) = some (true, PySem.W.openGood (PySem.W.view R.prog [67]) looseN) := by
  kernel_rfl
end TBX

set_option Elab.async false
set_option linter.all false
set_option maxRecDepth 100000
set_option maxHeartbeats 0
namespace TBX
open PySem PySem.Spec PyProof.Rows L2 TB
theorem run_b (w : World) (os : OsState) : (endY w os).map (lookT fun g K => exB0 K && He.tabsB g tfs K) = some true := by
  kernel_rfl
end TBX

set_option Elab.async false
set_option linter.all false
set_option maxRecDepth 100000
set_option maxHeartbeats 0
namespace TBX
open PySem PySem.Spec PyProof.Rows L2 TB
theorem run_c (w : World) (os : OsState) : (endY w os).map (lookB fun K => (rowsE.take 26).all (errB K)) = some true := by
  kernel_rfl
end TBX

set_option Elab.async false
set_option linter.all false
set_option maxRecDepth 100000
set_option maxHeartbeats 0
namespace TBX
open PySem PySem.Spec PyProof.Rows L2 TB
theorem run_d (w : World) (os : OsState) : (endY w os).map (lookB classesB) = some true := by
  kernel_rfl
end TBX

set_option Elab.async false
set_option linter.all false
set_option maxRecDepth 100000
set_option maxHeartbeats 0
namespace TBX
open PySem PySem.Spec PyProof.Rows L2 TB
theorem run_e (w : World) (os : OsState) : (endY w os).map (lookB fun K => lawFns.all fun d => d.ok K) = some true := by
  kernel_rfl
end TBX

set_option Elab.async false
set_option linter.all false
set_option maxRecDepth 100000
set_option maxHeartbeats 0
namespace TBX
open PySem PySem.Spec PyProof.Rows L2 TB
theorem run_f (w : World) (os : OsState) : (endY w os).map (lookB fun K => fas.all fun f => f.ok K) = some true := by
  kernel_rfl
end TBX

set_option Elab.async false
set_option linter.all false
set_option maxRecDepth 100000
set_option maxHeartbeats 0
namespace TBX
open PySem PySem.Spec PyProof.Rows L2 TB
theorem run_g (w : World) (os : OsState) : (endY w os).map (lookB fun K => (fns.take 24).map fun d => He.fnW K d.at_) = some ((fns.take 24).map He.DefD.val) := by
  kernel_rfl
end TBX

set_option Elab.async false
set_option linter.all false
set_option maxRecDepth 100000
set_option maxHeartbeats 0
namespace TBX
open PySem PySem.Spec PyProof.Rows L2 TB
theorem run_h (w : World) (os : OsState) : (endY w os).map (lookB fun K => (iniFns.take 15).all fun d => d.ok K) = some true := by
  kernel_rfl
end TBX

set_option Elab.async false
set_option linter.all false
set_option maxRecDepth 100000
set_option maxHeartbeats 0
namespace TBX
open PySem PySem.Spec PyProof.Rows L2 TB
theorem run_i (w : World) (os : OsState) : (endY w os).map (lookB fun K => (iniFns.drop 15).all fun d => d.ok K) = some true := by
  kernel_rfl
end TBX

set_option Elab.async false
set_option linter.all false
set_option maxRecDepth 100000
set_option maxHeartbeats 0
namespace TBX
open PySem PySem.Spec PyProof.Rows L2 TB
theorem run_j (w : World) (os : OsState) : (endY w os).map (lookB fun K => (rowsE.drop 26).all (errB K)) = some true := by
  kernel_rfl
end TBX

set_option Elab.async false
set_option linter.all false
set_option maxRecDepth 100000
set_option maxHeartbeats 0
namespace TBX
open PySem PySem.Spec PyProof.Rows L2 TB
theorem run_k (w : World) (os : OsState) : (endY w os).map (lookB fun K => (fns.drop 24).map fun d => He.fnW K d.at_) = some ((fns.drop 24).map He.DefD.val) := by
  kernel_rfl
end TBX

set_option Elab.async false
set_option linter.all false
set_option maxRecDepth 100000
set_option maxHeartbeats 0
namespace TBX
open PySem PySem.Spec PyProof.Rows L2 TB
theorem mapSome {α β : Type} {o : Option α} {f : α → β} {b : β} {s : α} (h : o.map f = some b) (e : o = some s) : f s = b := by
  rw [e] at h
  exact Option.some.inj h
theorem fns_ok {K : PySem.W.Frag} (h1 : (lawFns.all fun d => d.ok K) = true) (h2 : ((iniFns.take 15).all fun d => d.ok K) = true) (h3 : ((iniFns.drop 15).all fun d => d.ok K) = true) : (fns.all fun d => d.ok K) = true := by
  have e1 : (iniFns.all fun d => d.ok K) = true := by
    rw [← List.take_append_drop 15 iniFns, List.all_append, h2, h3]
    rfl
  have e2 : fns = lawFns ++ iniFns := (List.take_append_drop 13 fns).symm
  rw [e2, List.all_append, h1, e1]
  rfl
theorem fnW_all {K : PySem.W.Frag} (h1 : ((fns.take 24).map fun d => He.fnW K d.at_) = (fns.take 24).map He.DefD.val) (h2 : ((fns.drop 24).map fun d => He.fnW K d.at_) = (fns.drop 24).map He.DefD.val) : (fns.map fun d => He.fnW K d.at_) = fns.map He.DefD.val := by
  have e : fns = fns.take 24 ++ fns.drop 24 := (List.take_append_drop 24 fns).symm
  rw [e, List.map_append, List.map_append, h1, h2]
theorem rows_all {K : PySem.W.Frag} (h1 : (rowsE.take 26).all (errB K) = true) (h2 : (rowsE.drop 26).all (errB K) = true) : rowsE.all (errB K) = true := by
  rw [← List.take_append_drop 26 rowsE, List.all_append, h1, h2]
  rfl
theorem exB_of {K : PySem.W.Frag} (h0 : exB0 K = true) (h1 : rowsE.all (errB K) = true) (h2 : classesB K = true) : exB K = true := by
  unfold exB0 at h0
  unfold exB
  simp only [Bool.and_eq_true] at h0 ⊢
  obtain ⟨z, a, b, c, d, e⟩ := h0
  exact ⟨z, a, b, c, d, e, h1, h2⟩
theorem runY (w : World) : HandSHeadRun.RunEq R (PySem.W.view R.prog [67]) hookY obY 14000 looseN w := by
  intro os
  have ra := run_a w os
  have rb := run_b w os
  have rc := run_c w os
  have rd := run_d w os
  have re := run_e w os
  have rf := run_f w os
  have rg := run_g w os
  have rh := run_h w os
  have ri := run_i w os
  have rj := run_j w os
  have rk := run_k w os
  show (endY w os).map _ = _
  generalize endY w os = o at ra rb rc rd re rf rg rh ri rj rk ⊢
  obtain ⟨s, e, a1⟩ := Option.map_eq_some_iff.mp ra
  have b1 := mapSome rb e
  have c1 := mapSome rc e
  have d1 := mapSome rd e
  have e1 := mapSome re e
  have f1 := mapSome rf e
  have g1 := mapSome rg e
  have h1 := mapSome rh e
  have i1 := mapSome ri e
  have j1 := mapSome rj e
  have k1 := mapSome rk e
  rw [lookT_eq] at b1
  rw [lookB_eq] at c1 d1 e1 f1 g1 h1 i1 j1 k1
  obtain ⟨b1, b2⟩ := He.ba b1
  have x1 := exB_of b1 (rows_all c1 j1) d1
  have g2 := fnW_all g1 k1
  have y1 := fns_ok e1 h1 i1
  rw [e, Option.map_some]
  refine congrArg some ?_
  have z1 : obY s = hookY.val w := by
    show goK (HandSHeadRun.getT s) s.n [] (lookK (HandSHeadRun.getT s)) = He.valX fns [] w
    rw [goK_eq]
    show ((((fas.all fun f => f.ok (theK (HandSHeadRun.getT s) s.n)) && fns.all fun d => d.ok (theK (HandSHeadRun.getT s) s.n), fns.map fun d => He.fnW (theK (HandSHeadRun.getT s) s.n) d.at_), []), exB (theK (HandSHeadRun.getT s) s.n) && He.tabsB (HandSHeadRun.getT s) tfs (theK (HandSHeadRun.getT s) s.n)) = _
    rw [f1, y1, g2, x1, b2]
    rfl
  rw [z1]
  have a2 := congrArg Prod.fst a1
  have a3 := congrArg Prod.snd a1
  dsimp only at a2 a3
  exact Prod.ext a2 (Prod.ext a3 rfl)
end TBX

set_option Elab.async false
set_option linter.all false
set_option maxRecDepth 100000
set_option maxHeartbeats 4000000
namespace TBX
open PySem PySem.Spec PyProof.Rows L2 TB
/-! ### what the looks tell -/
abbrev Ci (K : PySem.W.Frag) (i : Nat) : Addr := He.ga K (nm i)
abbrev Wb (K : PySem.W.Frag) : Addr := He.ga K "WriteError"
structure ErrF (K : PySem.W.Frag) (r : PySem.Str × List PySem.Str) : Prop where
  T : ErrC K (He.ga K r.1)
  ns : PySem.W.nsIn K mainGlobals r.1 = some (some (.ref (He.ga K r.1)))
  i0 : r.2 = [] → PySem.W.findIn K (.ref (He.ga K r.1)) "__init__" = some (some (.builtin "ValueError.__init__"))
  i1 : r.2 ≠ [] → PySem.W.findIn K (.ref (He.ga K r.1)) "__init__" = some (some (.ref (He.ma K (He.ga K r.1) "__init__"))) ∧ PySem.W.typeIn K (.ref (He.ma K (He.ga K r.1) "__init__")) = some (.type "function")
  no : ∀ f ∈ r.2, PySem.W.findIn K (.ref (He.ga K r.1)) f = some none
theorem errF_of {K : PySem.W.Frag} {r : PySem.Str × List PySem.Str} (h : errB K r = true) : ErrF K r := by
  unfold errB at h
  simp only [Bool.and_eq_true, decide_eq_true_eq] at h
  obtain ⟨a, b, c, d, e, f, g, i, j, k, l, m, n, o⟩ := h
  obtain ⟨nm, q, N, bs, bm, sn, sub, ab, col, dd, k0, k1, k2, k3, k5, ho, hv⟩ := oexB_ok a
  refine ⟨⟨⟨⟨nm, q, N, bs, bm, sn, sub, ab, col, dd, k0, k1, k2, k3, k5, ho, hv⟩, He.eqO_ok i, j, k, l⟩, b, c, He.eqO_ok d, He.eqO_ok e, He.eqO_ok f, g⟩, He.eqO_ok m, fun z => ?_, fun z => ?_, fun x hx => He.eqO_ok (List.all_eq_true.mp o x hx)⟩
  · rw [z] at n
    exact He.eqO_ok n
  · cases q2 : r.2 with
    | nil => exact (z q2).elim
    | cons x xs =>
      rw [q2] at n
      obtain ⟨n1, n2⟩ := He.ba n
      exact ⟨He.eqO_ok n1, of_decide_eq_true n2⟩
theorem len_rows : rowsE.length = 52 := by decide +kernel
theorem row_at {i : Nat} (h : i < 52) : rowsE.getD i baseE ∈ rowsE := by
  rw [List.getD_eq_getElem?_getD, List.getElem?_eq_getElem (by rw [len_rows]; exact h)]
  exact List.getElem_mem _
theorem adrs_at (K : PySem.W.Frag) : ∀ (l : List (PySem.Str × List PySem.Str)) (i : Nat) (h : i < l.length), (adrs K l)[i]? = some (He.ga K (l.getD i baseE).1)
  | [], i, h => absurd h (by simp)
  | r :: l, 0, h => rfl
  | r :: l, i + 1, h => by
    show (adrs K l)[i]? = _
    rw [adrs_at K l i (by simpa using h)]
    rfl
theorem apart_ne : ∀ (l : List Addr) (i j : Nat) (a b : Addr), apart l = true → l[i]? = some a → l[j]? = some b → i ≠ j → a ≠ b
  | [], i, j, a, b, _, h, _, _ => by simp at h
  | x :: l, 0, 0, a, b, _, _, _, n => absurd rfl n
  | x :: l, 0, j + 1, a, b, h, h1, h2, _ => by
    obtain ⟨z, _⟩ := He.ba h
    cases h1
    have q := List.all_eq_true.mp z b (List.mem_of_getElem? h2)
    intro e
    rw [e] at q
    simp at q
  | x :: l, i + 1, 0, a, b, h, h1, h2, _ => by
    obtain ⟨z, _⟩ := He.ba h
    cases h2
    have q := List.all_eq_true.mp z a (List.mem_of_getElem? h1)
    intro e
    rw [e] at q
    simp at q
  | x :: l, i + 1, j + 1, a, b, h, h1, h2, n => apart_ne l i j a b (He.ba h).2 h1 h2 (fun e => n (by rw [e]))
theorem apart_rev {l : List Addr} (h : apart l = true) {i j : Nat} {a b : Addr} (h1 : l.reverse[i]? = some a) (h2 : l.reverse[j]? = some b) (n : i ≠ j) : a ≠ b := by
  have li : i < l.length := by
    have := (List.getElem?_eq_some_iff.mp h1).1
    simpa using this
  have lj : j < l.length := by
    have := (List.getElem?_eq_some_iff.mp h2).1
    simpa using this
  rw [List.getElem?_reverse li] at h1
  rw [List.getElem?_reverse lj] at h2
  exact apart_ne l _ _ a b h h1 h2 (by omega)
/-- the facts of K -/
structure Facts (K : PySem.W.Frag) : Prop where
  sys : ∃ o, K.lookup sysModules = some o
  g : ErrG K
  base : ErrF K baseE
  row : ∀ i, i < 52 → ErrF K (rowsE.getD i baseE)
  mroW : (PySem.W.clsIn K (Wb K)).map (·.mro) = some [.ref (Wb K), .type "ValueError", .type "Exception", .type "BaseException", .type "object"]
  mro : ∀ i, i < 52 → (PySem.W.clsIn K (Ci K i)).map (·.mro) = some [.ref (Ci K i), .ref (Wb K), .type "ValueError", .type "Exception", .type "BaseException", .type "object"]
  ne : ∀ i j, i < 52 → j < 52 → i ≠ j → Ci K i ≠ Ci K j
  neW : ∀ i, i < 52 → Ci K i ≠ Wb K
  tabs : tabB3 K = true
theorem facts_of {K : PySem.W.Frag} (h : exB K = true) : Facts K := by
  unfold exB at h
  simp only [Bool.and_eq_true] at h
  obtain ⟨z0, a, b, c, d, e, f, g⟩ := h
  unfold classesB at g
  rw [forceL_eq, List.append_nil] at g
  obtain ⟨g1, g2⟩ := He.ba g
  have eL : (adrs K (baseE :: rowsE)).reverse.reverse = Wb K :: adrs K rowsE := by
    rw [List.reverse_reverse]
    rfl
  rw [eL] at g2
  have at_ : ∀ i, i < 52 → (adrs K (baseE :: rowsE))[i + 1]? = some (Ci K i) := fun i hi => adrs_at K rowsE i (by rw [len_rows]; exact hi)
  have at0 : (adrs K (baseE :: rowsE))[0]? = some (Wb K) := rfl
  refine ⟨Option.isSome_iff_exists.mp a, ⟨He.eqO_ok b, of_decide_eq_true c⟩, errF_of d, fun i hi => errF_of (List.all_eq_true.mp f _ (row_at hi)), of_decide_eq_true e, fun i hi => ?_, fun i j hi hj n => ?_, fun i hi => ?_, z0⟩
  · have q := List.all_eq_true.mp g2 (Ci K i) (List.mem_of_getElem? (adrs_at K rowsE i (by rw [len_rows]; exact hi)))
    unfold mroB at q
    cases z : PySem.W.clsIn K (Ci K i) with
    | none =>
      rw [z] at q
      cases q
    | some cd =>
      rw [z] at q
      exact congrArg some (of_decide_eq_true q)
  · rw [← List.reverse_reverse (adrs K (baseE :: rowsE))] at at_
    exact apart_rev g1 (at_ i hi) (at_ j hj) (by omega)
  · rw [← List.reverse_reverse (adrs K (baseE :: rowsE))] at at_ at0
    exact apart_rev g1 (at_ i hi) at0 (by omega)
end TBX

set_option Elab.async false
set_option linter.all false
set_option maxRecDepth 100000
set_option maxHeartbeats 4000000
namespace TBX
open PySem PySem.Spec PyProof.Rows L2 TB
section
variable {K : PySem.W.Frag}
theorem mroIn_of {C : Addr} {l : List Value} {b : Value} (h : (PySem.W.clsIn K C).map (·.mro) = some l) (hl : l.isEmpty = false) : PySem.W.mroIn K C b = some (l.contains b) := by
  unfold PySem.W.mroIn
  generalize PySem.W.clsIn K C = o at h ⊢
  cases o with
  | none => cases h
  | some cd =>
    have e : cd.mro = l := Option.some.inj h
    simp only [Option.bind_some, e, hl]
    rfl
/-- isinstance of a class's exceptions -/
theorem kit_type {C : Addr} {l : List Value} {T : String} (h : (PySem.W.clsIn K C).map (·.mro) = some l) (hn : l.isEmpty = false) (ht : PySem.W.kitMeta T = true) : PySem.W.kitOne K (.ref C) (.type T) = some (l.contains (.type T)) := by
  unfold PySem.W.kitOne
  rw [if_neg (by simp)]
  unfold PySem.W.kitCls
  dsimp only
  rw [if_pos ht]
  exact mroIn_of h hn
theorem kit_ref {C D : Addr} {l : List Value} (h : (PySem.W.clsIn K C).map (·.mro) = some l) (hD : ErrC K D) (hn : l.isEmpty = false) (hl : l.contains (.ref C) = true) : PySem.W.kitOne K (.ref C) (.ref D) = some (l.contains (.ref D)) := by
  unfold PySem.W.kitOne
  by_cases e : C = D
  · subst e
    rw [if_pos (by simp), hl]
  · rw [if_neg (by simpa using e)]
    unfold PySem.W.kitCls
    dsimp only
    rw [hD.cl, hD.o.tyC]
    exact mroIn_of h hn
theorem refBeq (a b : Addr) : ((Value.ref a) == (Value.ref b)) = decide (a = b) := by
  by_cases e : a = b <;> simp [e]
variable (F : Facts K)
include F
theorem Facts.C {i : Nat} (h : i < 52) : ErrC K (Ci K i) := (F.row i h).T
theorem Facts.kit {i j : Nat} (hi : i < 52) (hj : j < 52) : PySem.W.kitOne K (.ref (Ci K i)) (.ref (Ci K j)) = some (decide (j = i)) := by
  rw [kit_ref (F.mro i hi) (F.C hj) rfl (by simp)]
  refine congrArg some ?_
  by_cases e : j = i
  · subst e
    simp
  · have h1 := F.ne i j hi hj fun z => e z.symm
    have h2 := F.neW j hj
    simp only [List.contains_cons, refBeq]
    rw [decide_eq_false (fun z => h1 z.symm), decide_eq_false h2, decide_eq_false e]
    rfl
theorem Facts.kitW {i : Nat} (hi : i < 52) : PySem.W.kitOne K (.ref (Ci K i)) (.ref (Wb K)) = some true := by
  rw [kit_ref (D := Wb K) (F.mro i hi) F.base.T rfl (by simp)]
  refine congrArg some ?_
  simp
theorem Facts.kitV {i : Nat} (hi : i < 52) : PySem.W.kitOne K (.ref (Ci K i)) (.type "ValueError") = some true := by
  rw [kit_type (F.mro i hi) rfl (by decide +kernel)]
  rfl
theorem Facts.kitL {i : Nat} (hi : i < 52) : PySem.W.kitOne K (.ref (Ci K i)) (.type "LookupError") = some false := by
  rw [kit_type (F.mro i hi) rfl (by decide +kernel)]
  rfl
theorem Facts.kitA {i : Nat} (hi : i < 52) : PySem.W.kitOne K (.ref (Ci K i)) (.type "ArithmeticError") = some false := by
  rw [kit_type (F.mro i hi) rfl (by decide +kernel)]
  rfl
theorem Facts.kitT {i : Nat} (hi : i < 52) : PySem.W.kitOne K (.ref (Ci K i)) (.type "TypeError") = some false := by
  rw [kit_type (F.mro i hi) rfl (by decide +kernel)]
  rfl
theorem Facts.kitB {j : Nat} (hj : j < 52) : PySem.W.kitOne K (.ref (Wb K)) (.ref (Ci K j)) = some false := by
  rw [kit_ref F.mroW (F.C hj) rfl (by simp)]
  refine congrArg some ?_
  have h2 := F.neW j hj
  simp only [List.contains_cons, refBeq]
  rw [decide_eq_false h2]
  rfl
theorem Facts.kitBV : PySem.W.kitOne K (.ref (Wb K)) (.type "ValueError") = some true := by
  rw [kit_type F.mroW rfl (by decide +kernel)]
  rfl
end
end TBX

set_option Elab.async false
set_option linter.all false
set_option maxRecDepth 100000
set_option maxHeartbeats 4000000
namespace TBX
open PySem PySem.Spec PyProof.Rows L2 TB
/-! ### the exceptions' __init__ -/
abbrev slf (fs : List PySem.Str) : List PySem.Str := ("self" : PySem.Str) :: fs
def Ext (H H' : Hp) : Prop := ∀ b o, H b = some o → H' b = some o
def spIni (K : PySem.W.Frag) (fs : List PySem.Str) : Sp := fun vs H Q _ => ∃ (a C : Addr) (ws : List V), vs = .ref a :: ws ∧ ws.length = fs.length ∧ OexC K C ∧ (∀ f ∈ fs, PySem.W.findIn K (.ref C) f = some none) ∧ H a = some (exo a C none) ∧
  ∀ H', (∀ b o, b ≠ a → H b = some o → H' b = some o) → ErrAt H' a C ((fs.zip ws).reverse) → Q .non H'
theorem spIni_len {K : PySem.W.Frag} {fs : List PySem.Str} (vs : List V) (H : Hp) (Q : VK) (E : XK) (h : spIni K fs vs H Q E) : vs.length = (slf fs).length := by
  obtain ⟨a, C, ws, rfl, hl, _⟩ := h
  simp [hl]
section
variable {P : Program} {w : World} {K : PySem.W.Frag} {mg : PySem.Str → Option Value} {base : Heap} {qual : PySem.Str} {params : Arguments} {body : List Stmt} {scope : Scope} {fI : Addr} {fd : FuncData} {f f2 f3 : PySem.Str} {p1 p2 p3 p4 p5 p6 p7 p8 p9 q1 q2 q3 : Pos}
theorem ok_ini1 (F : FunD K "__init__" qual params body scope [] [] fI fd) (hb : body = [.Assign [.Attribute (.Name "self" p1) f p2] (.Name f p3) q1]) (S : FnScope ["self", f] ["self", f] scope) (v0 : Vis scope "self") (v1 : Vis scope f)
    (d1 : (f == ("__debug__" : PySem.Str)) = false) (d2 : (f == ("__classdict__" : PySem.Str)) = false) (hs : ∀ env, swapsWith (.Name f p3) (some (.Attribute (.Name "self" p1) f p2)) q1.line env = pure false) : FnOk P w K mg base CX0 1 fI fd ["self", f] (spIni K [f]) := by
  subst hb
  refine F.ok S spIni_len (fun cdv A outer s H vs Q E hr h => ?_)
  obtain ⟨a, C, ws, rfl, hl, T, no, ha, k⟩ := h
  obtain ⟨x, rfl⟩ : ∃ x, ws = [x] := by
    match ws, hl with
    | [x], _ => exact ⟨x, rfl⟩
  refine ⟨_, PSs.nox (pss_one (ps_ost (pe_var (i := 0) rfl v0) (pe_var (i := 1) rfl v1 d1 d2) (hs _))), ?_⟩
  refine ⟨x, rfl, .ref a, rfl, a, C, rfl, T, no f (by simp), .inl ⟨ha, fun dx hd hda => ?_⟩⟩
  refine k _ (fun b o hb e => ?_) (.inr ⟨dx, upd_same, by rw [upd_ne hda]; exact upd_same⟩)
  rw [upd_ne hb, upd_ne (ne_of_none e hd)]
  exact e
theorem ok_ini2 (F : FunD K "__init__" qual params body scope [] [] fI fd) (hb : body = [.Assign [.Attribute (.Name "self" p1) f p2] (.Name f p3) q1, .Assign [.Attribute (.Name "self" p4) f2 p5] (.Name f2 p6) q2]) (S : FnScope ["self", f, f2] ["self", f, f2] scope)
    (v0 : Vis scope "self") (v1 : Vis scope f) (v2 : Vis scope f2)
    (d1 : (f == ("__debug__" : PySem.Str)) = false) (d2 : (f == ("__classdict__" : PySem.Str)) = false) (e1 : (f2 == ("__debug__" : PySem.Str)) = false) (e2 : (f2 == ("__classdict__" : PySem.Str)) = false)
    (hs : ∀ env, swapsWith (.Name f p3) (some (.Attribute (.Name "self" p1) f p2)) q1.line env = pure false) (hs2 : ∀ env, swapsWith (.Name f2 p6) (some (.Attribute (.Name "self" p4) f2 p5)) q2.line env = pure false) : FnOk P w K mg base CX0 1 fI fd ["self", f, f2] (spIni K [f, f2]) := by
  subst hb
  refine F.ok S spIni_len (fun cdv A outer s H vs Q E hr h => ?_)
  obtain ⟨a, C, ws, rfl, hl, T, no, ha, k⟩ := h
  obtain ⟨x, y, rfl⟩ : ∃ x y, ws = [x, y] := by
    match ws, hl with
    | [x, y], _ => exact ⟨x, y, rfl⟩
  refine ⟨_, PSs.nox (pss_cons (ps_ost (pe_var (i := 0) rfl v0) (pe_var (i := 1) rfl v1 d1 d2) (hs _)) (pss_one (ps_ost (pe_var (i := 0) rfl v0) (pe_var (i := 2) rfl v2 e1 e2) (hs2 _)))), ?_⟩
  refine ⟨x, rfl, .ref a, rfl, a, C, rfl, T, no f (by simp), .inl ⟨ha, fun dx hd hda => ?_⟩⟩
  refine ⟨y, rfl, .ref a, rfl, a, C, rfl, T, no f2 (by simp), .inr ⟨dx, _, upd_same, by rw [upd_ne hda]; exact upd_same, (by show 1 ≤ 900; decide), ?_⟩⟩
  refine k _ (fun b o hb e => ?_) (.inr ⟨dx, by rw [upd_ne hda.symm]; exact upd_same, upd_same⟩)
  rw [upd_ne (ne_of_none e hd), upd_ne hb, upd_ne (ne_of_none e hd)]
  exact e
theorem ok_ini3 (F : FunD K "__init__" qual params body scope [] [] fI fd)
    (hb : body = [.Assign [.Attribute (.Name "self" p1) f p2] (.Name f p3) q1, .Assign [.Attribute (.Name "self" p4) f2 p5] (.Name f2 p6) q2, .Assign [.Attribute (.Name "self" p7) f3 p8] (.Name f3 p9) q3]) (S : FnScope ["self", f, f2, f3] ["self", f, f2, f3] scope)
    (v0 : Vis scope "self") (v1 : Vis scope f) (v2 : Vis scope f2) (v3 : Vis scope f3)
    (d1 : (f == ("__debug__" : PySem.Str)) = false) (d2 : (f == ("__classdict__" : PySem.Str)) = false) (e1 : (f2 == ("__debug__" : PySem.Str)) = false) (e2 : (f2 == ("__classdict__" : PySem.Str)) = false)
    (g1 : (f3 == ("__debug__" : PySem.Str)) = false) (g2 : (f3 == ("__classdict__" : PySem.Str)) = false)
    (hs : ∀ env, swapsWith (.Name f p3) (some (.Attribute (.Name "self" p1) f p2)) q1.line env = pure false) (hs2 : ∀ env, swapsWith (.Name f2 p6) (some (.Attribute (.Name "self" p4) f2 p5)) q2.line env = pure false)
    (hs3 : ∀ env, swapsWith (.Name f3 p9) (some (.Attribute (.Name "self" p7) f3 p8)) q3.line env = pure false) : FnOk P w K mg base CX0 1 fI fd ["self", f, f2, f3] (spIni K [f, f2, f3]) := by
  subst hb
  refine F.ok S spIni_len (fun cdv A outer s H vs Q E hr h => ?_)
  obtain ⟨a, C, ws, rfl, hl, T, no, ha, k⟩ := h
  obtain ⟨x, y, z, rfl⟩ : ∃ x y z, ws = [x, y, z] := by
    match ws, hl with
    | [x, y, z], _ => exact ⟨x, y, z, rfl⟩
  refine ⟨_, PSs.nox (pss_cons (ps_ost (pe_var (i := 0) rfl v0) (pe_var (i := 1) rfl v1 d1 d2) (hs _)) (pss_cons (ps_ost (pe_var (i := 0) rfl v0) (pe_var (i := 2) rfl v2 e1 e2) (hs2 _)) (pss_one (ps_ost (pe_var (i := 0) rfl v0) (pe_var (i := 3) rfl v3 g1 g2) (hs3 _))))), ?_⟩
  refine ⟨x, rfl, .ref a, rfl, a, C, rfl, T, no f (by simp), .inl ⟨ha, fun dx hd hda => ?_⟩⟩
  refine ⟨y, rfl, .ref a, rfl, a, C, rfl, T, no f2 (by simp), .inr ⟨dx, _, upd_same, by rw [upd_ne hda]; exact upd_same, (by show 1 ≤ 900; decide), ?_⟩⟩
  refine ⟨z, rfl, .ref a, rfl, a, C, rfl, T, no f3 (by simp), .inr ⟨dx, _, by rw [upd_ne hda.symm]; exact upd_same, upd_same, (by show 2 ≤ 900; decide), ?_⟩⟩
  refine k _ (fun b o hb e => ?_) (.inr ⟨dx, by rw [upd_ne hda.symm, upd_ne hda.symm]; exact upd_same, upd_same⟩)
  rw [upd_ne (ne_of_none e hd), upd_ne (ne_of_none e hd), upd_ne hb, upd_ne (ne_of_none e hd)]
  exact e
/-- what an own class with an own __init__ is to its callers -/
structure ClN (P : Program) (w : World) (K : PySem.W.Frag) (mg : PySem.Str → Option Value) (base : Heap) (x : PySem.Str) (fs : List PySem.Str) (C : Addr) : Prop where
  T : ErrC K C
  m : mg x = some (.ref C)
  no : ∀ f ∈ fs, PySem.W.findIn K (.ref C) f = some none
  ini : ∃ (fI : Addr) (fd : FuncData), PySem.W.findIn K (.ref C) "__init__" = some (some (.ref fI)) ∧ PySem.W.typeIn K (.ref fI) = some (.type "function") ∧ FnOk P w K mg base CX0 1 fI fd (slf fs) (spIni K fs) ∧
    KBn K fd (slf fs) (fs.length + 1) [] (fun us _ => us) (fun vs _ => vs) ∧ KBn K fd (slf fs) 1 fs.reverse (fun us ws => us ++ ws.reverse) (fun vs zs => vs ++ zs.reverse)
structure Cl0 (K : PySem.W.Frag) (mg : PySem.Str → Option Value) (x : PySem.Str) (C : Addr) : Prop where
  T : ErrC K C
  m : mg x = some (.ref C)
  ini : PySem.W.findIn K (.ref C) "__init__" = some (some (.builtin "ValueError.__init__"))
theorem kb_pos {fs : List PySem.Str} (F : FunD K "__init__" qual params body scope [] [] fI fd)
    (h : ∀ (kV doc pm : Value) (an : Option Addr) (cdv ct : Value) (us : List Value), us.length = (slf fs).length → bindArgs (PySem.W.fnOf "__init__" qual params body scope .none kV doc pm an cdv ct) ⟨us, []⟩ = pure ((slf fs).zip us)) :
    KBn K fd (slf fs) (fs.length + 1) [] (fun us _ => us) (fun vs _ => vs) := ⟨fun s us ws _ l1 _ => F.bindsA h s us l1, fun r _ => r⟩
theorem kb_kw {fs : List PySem.Str} (F : FunD K "__init__" qual params body scope [] [] fI fd)
    (h : ∀ (kV doc pm : Value) (an : Option Addr) (cdv ct : Value) (us ws : List Value), us.length = 1 → ws.length = fs.reverse.length → bindArgs (PySem.W.fnOf "__init__" qual params body scope .none kV doc pm an cdv ct) ⟨us, fs.reverse.zip ws⟩ = pure ((slf fs).zip (us ++ ws.reverse))) :
    KBn K fd (slf fs) 1 fs.reverse (fun us ws => us ++ ws.reverse) (fun vs zs => vs ++ zs.reverse) := by
  refine ⟨fun s us ws _ l1 l2 => ?_, fun r1 r2 => r1.append r2.reverse⟩
  obtain ⟨oc, od, dV, kV, doc, pm, an, cdv, ct, osl, rfl, lk, hcd, hD, hK⟩ := F.ex
  rcases hD with ⟨_, rfl⟩ | ⟨e, _⟩
  · exact .of_eq (h kV doc pm an cdv ct us ws l1 l2)
  · exact absurd rfl e
end
end TBX

set_option Elab.async false
set_option linter.all false
set_option maxRecDepth 100000
set_option maxHeartbeats 4000000
namespace TBX
open PySem PySem.Spec PyProof.Rows L2 TB LamX NdefX
/-! ### C(..), C(k = ..) -/
def tMkP (C : Addr) (fs : List PySem.Str) (t : TA) : TE := fun σ H Q => t σ H fun vs H1 => vs.length = fs.length ∧ ∀ a H', H1 a = none → Ext H1 H' → ErrAt H' a C ((fs.zip vs).reverse) → Q (.ref a) H'
def tMkK (C : Addr) (fs : List PySem.Str) (t : TA) : TE := fun σ H Q => t σ H fun zs H1 => zs.length = fs.length ∧ ∀ a H', H1 a = none → Ext H1 H' → ErrAt H' a C ((fs.zip zs.reverse).reverse) → Q (.ref a) H'
theorem ext_of {H H' : Hp} {a : Addr} {o : HO} (n : H a = none) (k : ∀ b u, b ≠ a → (upd H a o) b = some u → H' b = some u) : Ext H H' := fun b u e => by
  have nb := ne_of_none e n
  exact k b u nb (by rw [upd_ne nb]; exact e)
section
variable {X : Cx} {x : PySem.Str} {fs : List PySem.Str} {C : Addr} {p pos : Pos} {e1 : Expr} {es : List Expr} {kws : List Keyword} {t : TA}
theorem pe_mkP (c : ClN X.prog X.w X.K X.mg X.base x fs C) (hr : Room 2 X.A) (l3 : fs.length + 1 ≤ 1000) (hg : Gl X x) (ha : PA X (e1 :: es) t)
    (hdb : (x == ("__debug__" : PySem.Str)) = false := by decide) (he : starEach (e1 :: es) X.env = (false, eval e1 X.env) :: starEach es X.env := by rfl) (hpl : (backTo pos (starEach es X.env)).any (·.1) = false := by rfl) :
    PE X (.Call (.Name x p) (e1 :: es) [] pos) (tMkP C fs t) := by
  refine ⟨fun pins s σ H Q I h => ?_⟩
  obtain ⟨fI, fd, iC, tI, F1, hb, _⟩ := c.ini
  refine wpAny_Call_Name_kw (ld_glob I hg c.m ?_ hdb)
  refine PySem.W.callWith_K (h₀ := X.base) I.ok.mod.kin c.T.o.kC (thn (ha.run pos pins s σ H _ I h) fun us s1 ⟨vs, H1, I1, r, l1, q⟩ => ⟨I1.kIn, ?_⟩) he hpl
  exact run_exc (zs := []) (ws := []) c.T.o iC tI F1 hr hb I1 r .nil l1 rfl (by omega) fun a n => ⟨a, C, vs, rfl, l1, c.T.o, c.no, upd_same, fun H' k e => ⟨rfl, q a H' n (ext_of n k) e⟩⟩
theorem pe_mkK (c : ClN X.prog X.w X.K X.mg X.base x fs C) (hr : Room 2 X.A) (hg : Gl X x) (hkw : PK X kws t)
    (hall : (backToKw pos (keywordEach kws X.env)).all (·.1.isSome) = true := by rfl) (hks : (backToKw pos (keywordEach kws X.env)).filterMap (·.1) = fs.reverse := by rfl) (hdb : (x == ("__debug__" : PySem.Str)) = false := by decide)
    (hpl : ((backTo pos (starEach [] X.env)).any (·.1) || (backToKw pos (keywordEach kws X.env)).any (·.1.isNone)) = false := by rfl) :
    PE X (.Call (.Name x p) [] kws pos) (tMkK C fs t) := by
  refine ⟨fun pins s σ H Q I h => ?_⟩
  obtain ⟨fI, fd, iC, tI, F1, _, hb⟩ := c.ini
  refine wpAny_Call_Name_kw (ld_glob I hg c.m ?_ hdb)
  refine PySem.W.callWith_KW0 (h₀ := X.base) I.ok.mod.kin c.T.o.kC hall ?_ hpl
  refine thn (hkw.run pos pins s σ H _ I h) fun ws s2 ⟨zs, H2, I2, rz, l2, q⟩ => ⟨I2.kIn, ?_⟩
  rw [hks]
  have l4 : zs.length = fs.reverse.length := by rw [List.length_reverse]; exact l2
  exact run_exc (n := 0) (us := []) (vs := []) c.T.o iC tI F1 hr hb I2 .nil rz rfl l4 (by omega) fun a n => ⟨a, C, zs.reverse, rfl, by rw [List.length_reverse]; exact l2, c.T.o, c.no, upd_same, fun H' k e => ⟨rfl, q a H' n (ext_of n k) e⟩⟩
def tMk0 (C : Addr) : TE := fun _ H Q => ∀ a H', H a = none → Ext H H' → ErrAt H' a C [] → Q (.ref a) H'
theorem pe_mk0 (c : Cl0 X.K X.mg x C) (hg : Gl X x) (hdb : (x == ("__debug__" : PySem.Str)) = false := by decide) : PE X (.Call (.Name x p) [] [] pos) (tMk0 C) := by
  refine ⟨fun pins s σ H Q I h => ?_⟩
  refine (pe_ex0 c.T.o c.ini hg c.m hdb).run pins s σ H Q I fun a n => h a _ n (fun b o e => ?_) (.inl ⟨rfl, upd_same⟩)
  rw [upd_ne (ne_of_none e n)]
  exact e
end
/-! ### the lambdas: lambda e: [e.f, ..] -/
def spLam (K : PySem.W.Frag) (fs : List PySem.Str) : Sp := fun vs H Q _ => ∃ (a C : Addr) (ms : List (PySem.Str × V)) (xs : List V), vs = [.ref a] ∧ ErrC K C ∧ ErrAt H a C ms ∧ (∀ f ∈ fs, PySem.W.findIn K (.ref C) f = some none) ∧ fs.map (fun f => List.lookup f ms) = xs.map some ∧
  ∀ D, H D = none → Q (.ref D) (upd H D (.lst xs))
theorem spLam_len {K : PySem.W.Frag} {fs : List PySem.Str} (vs : List V) (H : Hp) (Q : VK) (E : XK) (h : spLam K fs vs H Q E) : vs.length = (["e"] : List PySem.Str).length := by
  obtain ⟨a, C, ms, xs, rfl, _⟩ := h
  rfl
/-- a lambda of these: its body's list of fields -/
inductive LBody : Expr → List PySem.Str → Prop
  | z {p : Pos} : LBody (.List [] p) []
  | one {f : PySem.Str} {p p1 p2 : Pos} (hb : ∀ env : Env, attributeBase (.Name "e" p1) f env (eval (.Name "e" p1) env) = eval (.Name "e" p1) env) : LBody (.List [.Attribute (.Name "e" p1) f p2] p) [f]
  | two {f f2 : PySem.Str} {p p1 p2 p3 p4 : Pos} (hb : ∀ env : Env, attributeBase (.Name "e" p1) f env (eval (.Name "e" p1) env) = eval (.Name "e" p1) env) (hb2 : ∀ env : Env, attributeBase (.Name "e" p3) f2 env (eval (.Name "e" p3) env) = eval (.Name "e" p3) env) :
      LBody (.List [.Attribute (.Name "e" p1) f p2, .Attribute (.Name "e" p3) f2 p4] p) [f, f2]
  | three {f f2 f3 : PySem.Str} {p p1 p2 p3 p4 p5 p6 : Pos} (hb : ∀ env : Env, attributeBase (.Name "e" p1) f env (eval (.Name "e" p1) env) = eval (.Name "e" p1) env) (hb2 : ∀ env : Env, attributeBase (.Name "e" p3) f2 env (eval (.Name "e" p3) env) = eval (.Name "e" p3) env)
      (hb3 : ∀ env : Env, attributeBase (.Name "e" p5) f3 env (eval (.Name "e" p5) env) = eval (.Name "e" p5) env) : LBody (.List [.Attribute (.Name "e" p1) f p2, .Attribute (.Name "e" p3) f2 p4, .Attribute (.Name "e" p5) f3 p6] p) [f, f2, f3]
theorem map_some1 {fs : List PySem.Str} {g : PySem.Str → Option V} {xs : List V} {f : PySem.Str} (h : (f :: fs).map g = xs.map some) : ∃ v vs, xs = v :: vs ∧ g f = some v ∧ fs.map g = vs.map some := by
  cases xs with
  | nil => cases h
  | cons v vs =>
    rw [List.map_cons, List.map_cons] at h
    injection h with h1 h2
    exact ⟨v, vs, rfl, h1, h2⟩
section
variable {P : Program} {w : World} {K : PySem.W.Frag} {mg : PySem.Str → Option Value} {base : Heap} {f : Addr} {F : NF} {body : Expr} {fs : List PySem.Str}
theorem lok_fields (S : NScope ["e"] ["e"] [] F.scope) (hcl : F.cl = []) (hv : Vis F.scope "e") (hb : ∀ (pm ctv : Value) (us : List Value), us.length = 1 → bindArgs (PySem.W.kla_fn F.name F.qual F.params body F.scope F.cl pm (.ref F.c) ctv) ⟨us, []⟩ = pure ((["e"] : List PySem.Str).zip us)) (B : LBody body fs) :
    LOk P w K mg base 1 f F body (spLam K fs) := by
  refine lok_of (N := ["e"]) (ps := ["e"]) S hcl hb spLam_len fun A outer s H vs Q hr h => ?_
  obtain ⟨a, C, ms, xs, rfl, T, ea, no, hm, k⟩ := h
  cases B with
  | z =>
    cases xs with
    | cons _ _ => cases hm
    | nil => exact ⟨_, pe_lst pa_nil, Nat.zero_le _, k⟩
  | one hb1 =>
    obtain ⟨v, vs, rfl, e1, hm⟩ := map_some1 hm
    obtain rfl : vs = [] := by
      cases vs with
      | nil => rfl
      | cons _ _ => cases hm
    exact ⟨_, pe_lst (pa_cons (pe_efld (pe_var (i := 0) rfl hv) (hb1 _)) pa_nil), _, rfl, a, C, ms, v, rfl, T, ea, no _ (by simp), e1, (by show 1 ≤ sizeLine; decide), k⟩
  | two hb1 hb2 =>
    obtain ⟨v, vs, rfl, e1, hm⟩ := map_some1 hm
    obtain ⟨v2, vs, rfl, e2, hm⟩ := map_some1 hm
    obtain rfl : vs = [] := by
      cases vs with
      | nil => rfl
      | cons _ _ => cases hm
    exact ⟨_, pe_lst (pa_cons (pe_efld (pe_var (i := 0) rfl hv) (hb1 _)) (pa_cons (pe_efld (pe_var (i := 0) rfl hv) (hb2 _)) pa_nil)), _, rfl, a, C, ms, v, rfl, T, ea, no _ (by simp), e1, _, rfl, a, C, ms, v2, rfl, T, ea, no _ (by simp), e2, (by show 2 ≤ sizeLine; decide), k⟩
  | three hb1 hb2 hb3 =>
    obtain ⟨v, vs, rfl, e1, hm⟩ := map_some1 hm
    obtain ⟨v2, vs, rfl, e2, hm⟩ := map_some1 hm
    obtain ⟨v3, vs, rfl, e3, hm⟩ := map_some1 hm
    obtain rfl : vs = [] := by
      cases vs with
      | nil => rfl
      | cons _ _ => cases hm
    exact ⟨_, pe_lst (pa_cons (pe_efld (pe_var (i := 0) rfl hv) (hb1 _)) (pa_cons (pe_efld (pe_var (i := 0) rfl hv) (hb2 _)) (pa_cons (pe_efld (pe_var (i := 0) rfl hv) (hb3 _)) pa_nil))), _, rfl, a, C, ms, v, rfl, T, ea, no _ (by simp), e1, _, rfl, a, C, ms, v2, rfl, T, ea, no _ (by simp), e2,
      _, rfl, a, C, ms, v3, rfl, T, ea, no _ (by simp), e3, (by show 3 ≤ sizeLine; decide), k⟩
end
end TBX

set_option Elab.async false
set_option linter.all false
set_option maxRecDepth 100000
set_option maxHeartbeats 4000000
namespace TBX
open PySem PySem.Spec PyProof.Rows L2 TB LamX NdefX
/-! ### rows: (mine, twin, lambda, list) -/
abbrev lamP (pa : Pos) : Arguments := ⟨[], [⟨"e", none, pa⟩], none, [], [], none, []⟩
abbrev lamS : Scope := ⟨.function, [("e", .local)], false, false, []⟩
structure RowAt (P : Program) (w : World) (K : PySem.W.Frag) (mg : PySem.Str → Option Value) (base : Heap) (B : List Addr) (H : Hp) (i : Nat) (vs : List V) (v : V) : Prop where
  ex : ∃ (p m t f due : Addr) (F : NF) (body : Expr) (ms ms2 : List (PySem.Str × V)), v = .ref p ∧ H p = some (.tup [.ref m, .ref t, .ref f, .ref due]) ∧ ErrAt H m (Ci K i) ms ∧ ErrAt H t (Ci K i) ms2 ∧
    (fl i).map (fun x => List.lookup x ms) = vs.map some ∧ (fl i).map (fun x => List.lookup x ms2) = vs.map some ∧ H f = some (LamO f F body) ∧ H F.c = some (CodeO F.c F.qual) ∧ LOk P w K mg base 1 f F body (spLam K (fl i)) ∧ H due = some (.lst vs) ∧ due ∉ B
/-- all but p and the tables stay -/
def ExtP (p : Addr) (H H' : Hp) : Prop := ∀ b o, b ≠ p → H b = some o → (∀ ps, o ≠ .tbl ps) → H' b = some o
theorem RowAt.ext {P : Program} {w : World} {K : PySem.W.Frag} {mg : PySem.Str → Option Value} {base : Heap} {B : List Addr} {H H' : Hp} {i : Nat} {vs : List V} {v : V} (r : RowAt P w K mg base B H i vs v)
    (k : ∀ b o, H b = some o → (∀ ps, o ≠ .tbl ps) → ((∀ xs, o ≠ .lst xs) ∨ b ∉ B) → H' b = some o) : RowAt P w K mg base B H' i vs v := by
  obtain ⟨p, m, t, f, due, F, body, ms, ms2, e1, e2, e3, e4, e5, e6, e7, e8, e9, e10, e11⟩ := r.ex
  refine ⟨p, m, t, f, due, F, body, ms, ms2, e1, k _ _ e2 (fun ps z => by cases z) (.inl fun xs z => by cases z), e3.ext fun b o q n1 n2 => k b o q n2 (.inl n1), e4.ext fun b o q n1 n2 => k b o q n2 (.inl n1), e5, e6, k _ _ e7 lamO_tbl (.inl lamO_lst), k _ _ e8 codeO_ne (.inl fun xs z => ?_), e9,
    k _ _ e10 (fun ps z => by cases z) (.inr e11), e11⟩
  unfold CodeO at z
  cases z
section
variable {X : Cx} {T : List (Addr × PySem.Str)}
def tLamE (P : Program) (w : World) (K : PySem.W.Frag) (mg : PySem.Str → Option Value) (base : Heap) (T : List (Addr × PySem.Str)) (fs : List PySem.Str) : TE := fun _ H Q => Tabs T H ∧ ∀ (f : Addr) (F : NF) (body : Expr) (H1 : Hp), ExtN H H1 → (∀ b, H1 b = none → H b = none) → Tabs T H1 → H1 f = some (LamO f F body) → H1 F.c = some (CodeO F.c F.qual) →
  LOk P w K mg base 1 f F body (spLam K fs) → Q (.ref f) H1
theorem scLam : NScope ["e"] ["e"] [] lamS := ⟨rfl, rfl, rfl, by decide +kernel, rfl, by decide +kernel, by decide +kernel, by decide +kernel, by decide +kernel⟩
theorem pe_lamE {c Pt : Addr} {pa pos : Pos} {body : Expr} {fs : List PySem.Str} (tb : TabB X.base X.mg c Pt) (hcode : X.env.code = .ref c) (hm : (Pt, X.env.qual ++ "<lambda>") ∈ T) (hu : ∀ p ∈ T, p.1 = Pt → p.2 = X.env.qual ++ "<lambda>") (B : LBody body fs) :
    PE X (.Lambda (lamP pa) body lamS pos) (tLamE X.prog X.w X.K X.mg X.base T fs) := by
  refine ⟨fun pins s σ H Q I h => ?_⟩
  obtain ⟨h1, h2⟩ := h
  refine (pe_lamM (params := lamP pa) (scope := lamS) (body := body) tb hcode hm hu rfl (fun y hy e => by
    obtain rfl : y = (("e" : PySem.Str), NameKind.local) := by simpa using hy
    cases e)).run pins s σ H Q I ⟨h1, fun f c' H1 k kn t n e1 e2 => ?_⟩
  refine h2 f _ body H1 k kn t e1 e2 (lok_fields scLam rfl (.inl rfl) (fun pm ctv us hl => ?_) B)
  match us, hl with
  | [u], _ => rfl
/-- an exception is handed over: te -/
def Made (te : TE) (σ : L2.St) (H : Hp) (C : Addr) (fs : List PySem.Str) (vs : List V) : Prop := ∀ Q : VK, (∀ (a : Addr) (H' : Hp) (ms : List (PySem.Str × V)), Ext H H' → ErrAt H' a C ms → fs.map (fun x => List.lookup x ms) = vs.map some → Q (.ref a) H') → te σ H Q
def tRow (P : Program) (w : World) (K : PySem.W.Frag) (mg : PySem.Str → Option Value) (base : Heap) (T : List (Addr × PySem.Str)) (B : List Addr) (i : Nat) (te1 te2 : TE) (td : TA) : TS := fun D σ H => ∃ (p : Addr) (xs vs : List V), σ[3]? = some (some (.ref p)) ∧ H p = some (.lst xs) ∧ xs.length ≤ 100 ∧ vs.length ≤ 100 ∧ Tabs T H ∧ (∀ b ∈ B, H b ≠ none) ∧
  Made te1 σ H (Ci K i) (fl i) vs ∧ (∀ H', Ext H H' → Made te2 σ H' (Ci K i) (fl i) vs) ∧ (∀ H' Q, Q vs H' → td σ H' Q) ∧
  ∀ (H' : Hp) (v : V), ExtP p H H' → RowAt P w K mg base B H' i vs v → H' p = some (.lst (xs ++ [v])) → Tabs T H' → (∀ b, H' b = none → H b = none) → D.nx σ H'
theorem ps_row {B : List Addr} {i : Nat} {c Pt : Addr} {pa p1 p2 p3 p4 p5 p6 p7 : Pos} {body e1 e2 : Expr} {es : List Expr} {te1 te2 : TE} {td : TA} (nd : X.N.Nodup) (hN : X.N[3]? = some ("found" : PySem.Str)) (hV : Vis X.env.scope "found") (tb : TabB X.base X.mg c Pt) (hcode : X.env.code = .ref c) (hm : (Pt, X.env.qual ++ "<lambda>") ∈ T)
    (hu : ∀ p ∈ T, p.1 = Pt → p.2 = X.env.qual ++ "<lambda>") (LB : LBody body (fl i)) (h1 : PE X e1 te1) (h2 : PE X e2 te2) (hd : PA X es td)
    (hl0 : (p2.endLine == p6.line) = true)
    (hs : swapsWith (.Call (.Attribute (.Name "found" p1) "append" p2) [.Tuple [e1, e2, .Lambda (lamP pa) body lamS p3, .List es p4] 0 p5] [] p6) none p7.line X.env = pure false)
    (hs1 : starEach [e1, e2, .Lambda (lamP pa) body lamS p3, .List es p4] X.env = (false, eval e1 X.env) :: starEach [e2, .Lambda (lamP pa) body lamS p3, .List es p4] X.env)
    (hs2 : starEach [e2, .Lambda (lamP pa) body lamS p3, .List es p4] X.env = (false, eval e2 X.env) :: starEach [.Lambda (lamP pa) body lamS p3, .List es p4] X.env) :
    PS X (.Expr (.Call (.Attribute (.Name "found" p1) "append" p2) [.Tuple [e1, e2, .Lambda (lamP pa) body lamS p3, .List es p4] 0 p5] [] p6) p7) (tRow X.prog X.w X.K X.mg X.base T B i te1 te2 td) := by
  have D0 := ps_expr (pos := p7) (pe_bm PySem.F.plainAttrs_list PySem.F.slot_list_append PySem.F.type_list_append mt_append (pe_var (X := X) (i := 3) (pos := p1) hN hV) (pa_cons (pe_tup (pa_cons h1 (pa_cons h2 (pa_cons (pe_lamE (pa := pa) (pos := p3) tb hcode hm hu LB) (pa_cons (pe_lst hd) pa_nil)) hs2) hs1)) pa_nil) (hline := hl0)) hs
  refine ⟨fun pins s σ H D I h => D0.run pins s σ H D I ?_⟩
  obtain ⟨p, xs, vs, hp, hx, hl, hl2, hT, hB, m1, m2, m3, k⟩ := h
  refine ⟨_, hp, .inl ⟨rfl, _, SqL.of hx⟩, ?_⟩
  refine m1 _ fun a1 H1 ms1 x1 ea1 el1 => ?_
  refine m2 H1 x1 _ fun a2 H2 ms2 x2 ea2 el2 => ?_
  refine ⟨(hT.ext x1).ext x2, fun f F bd H3 x3 n3 T3 ef ec L => ?_⟩
  refine m3 H3 _ ⟨Nat.le_trans hl2 (by decide), fun due hdue => ?_⟩
  refine ⟨(by show 4 ≤ sizeLine; decide), fun tp htp => ?_⟩
  have none0 : ∀ b, H2 b = none → H b = none := fun b e => by
    cases q : H b with
    | none => rfl
    | some o =>
      rw [x2 _ _ (x1 _ _ q)] at e
      cases e
  have ntd : tp ≠ due := fun z => by
    rw [z, upd_same] at htp
    cases htp
  have htp3 : H3 tp = none := by
    rw [upd_ne ntd] at htp
    exact htp
  have xp : H3 p = some (.lst xs) := x3 _ _ (x2 _ _ (x1 _ _ hx)) fun ps z => by cases z
  have npd : p ≠ due := ne_of_none xp hdue
  have npt : p ≠ tp := ne_of_none xp htp3
  refine ⟨p, xs, .ref tp, rfl, rfl, by rw [upd_ne npt, upd_ne npd]; exact xp, Nat.lt_of_le_of_lt hl (by decide), ?_⟩
  have up : ∀ b o, b ≠ p → H3 b = some o → (upd (upd (upd H3 due (.lst vs)) tp (.tup [.ref a1, .ref a2, .ref f, .ref due])) p (.lst (xs ++ [.ref tp]))) b = some o := fun b o nb e => by
    rw [upd_ne nb, upd_ne (ne_of_none e htp3), upd_ne (ne_of_none e hdue)]
    exact e
  have nl : ∀ b o, H3 b = some o → (∀ xs, o ≠ .lst xs) → b ≠ p := fun b o e n z => by
    rw [z, xp] at e
    exact n _ (Option.some.inj e).symm
  refine k _ (.ref tp) (fun b o nb e n => up b o nb (x3 _ _ (x2 _ _ (x1 _ _ e)) n)) ⟨tp, a1, a2, f, due, F, bd, ms1, ms2, rfl, by rw [upd_ne npt.symm]; exact upd_same, ea1.ext fun b o e n1 n2 => ?_, ea2.ext fun b o e n1 n2 => ?_, el1, el2, up _ _ (nl _ _ ef lamO_lst) ef, up _ _ (nl _ _ ec fun xs z => ?_) ec, L, ?_, ?_⟩ upd_same ?_ fun b e => none0 b (n3 b (upd_none (upd_none (upd_none e))))
  · have e3 := x3 _ _ (x2 _ _ e) n2
    exact up b o (nl b o e3 n1) e3
  · have e3 := x3 _ _ e n2
    exact up b o (nl b o e3 n1) e3
  · unfold CodeO at z
    cases z
  · rw [upd_ne npd.symm, upd_ne ntd.symm]
    exact upd_same
  · intro z
    exact hB due z (none0 due (n3 due hdue))
  · intro q hq
    obtain ⟨ps, z1, z2, z3⟩ := T3 q hq
    refine ⟨ps, up _ _ (nl _ _ z1 fun xs z => by cases z) z1, z2, fun pos cv hc => ?_⟩
    obtain ⟨c0, y1, y2⟩ := z3 pos cv hc
    refine ⟨c0, y1, up _ _ (nl _ _ y2 fun xs z => ?_) y2⟩
    unfold CodeO at z
    cases z
end
end TBX

set_option Elab.async false
set_option linter.all false
set_option maxRecDepth 100000
set_option maxHeartbeats 4000000
namespace TBX
open PySem PySem.Spec PyProof.Rows L2 TB LamX NdefX
/-! ### the rows behind one another -/
inductive RowsAt (P : Program) (w : World) (K : PySem.W.Frag) (mg : PySem.Str → Option Value) (base : Heap) (B : List Addr) (H : Hp) (all : List V) : List Nat → List V → Prop
  | nil : RowsAt P w K mg base B H all [] []
  | cons {i : Nat} {is : List Nat} {v : V} {vs : List V} : RowAt P w K mg base B H i (all.take (fl i).length) v → RowsAt P w K mg base B H all is vs → RowsAt P w K mg base B H all (i :: is) (v :: vs)
section
variable {P : Program} {w : World} {K : PySem.W.Frag} {mg : PySem.Str → Option Value} {base : Heap} {B : List Addr} {H H' : Hp} {all : List V}
theorem RowsAt.len {is : List Nat} {vs : List V} (r : RowsAt P w K mg base B H all is vs) : vs.length = is.length := by
  induction r with
  | nil => rfl
  | cons _ _ ih => simp [ih]
theorem RowsAt.app {is js : List Nat} {vs us : List V} (r : RowsAt P w K mg base B H all is vs) (q : RowsAt P w K mg base B H all js us) : RowsAt P w K mg base B H all (is ++ js) (vs ++ us) := by
  induction r with
  | nil => exact q
  | cons h _ ih => exact .cons h ih
theorem RowsAt.ext {is : List Nat} {vs : List V} (r : RowsAt P w K mg base B H all is vs) (k : ∀ b o, H b = some o → (∀ ps, o ≠ .tbl ps) → ((∀ xs, o ≠ .lst xs) ∨ b ∉ B) → H' b = some o) : RowsAt P w K mg base B H' all is vs := by
  induction r with
  | nil => exact .nil
  | cons h _ ih => exact .cons (h.ext k) ih
theorem RowsAt.extN {is : List Nat} {vs : List V} (r : RowsAt P w K mg base B H all is vs) (k : ExtN H H') : RowsAt P w K mg base B H' all is vs := r.ext fun b o e n _ => k b o e n
theorem RowsAt.extP {is : List Nat} {vs : List V} {p : Addr} {xs : List V} (r : RowsAt P w K mg base B H all is vs) (hp : H p = some (.lst xs)) (hB : p ∈ B) (k : ExtP p H H') : RowsAt P w K mg base B H' all is vs :=
  r.ext fun b o e n z => k b o (fun q => by
    rcases z with z | z
    · rw [q, hp] at e
      exact z _ (Option.some.inj e).symm
    · exact z (by rw [q]; exact hB)) e n
theorem RowAt.weak {B' : List Addr} {i : Nat} {vs : List V} {v : V} (r : RowAt P w K mg base B H i vs v) (h : ∀ b ∈ B', b ∈ B) : RowAt P w K mg base B' H i vs v := by
  obtain ⟨p, m, t, f, due, F, body, ms, ms2, e1, e2, e3, e4, e5, e6, e7, e8, e9, e10, e11⟩ := r.ex
  exact ⟨p, m, t, f, due, F, body, ms, ms2, e1, e2, e3, e4, e5, e6, e7, e8, e9, e10, fun z => e11 (h _ z)⟩
theorem RowsAt.weak {B' : List Addr} {is : List Nat} {vs : List V} (r : RowsAt P w K mg base B H all is vs) (h : ∀ b ∈ B', b ∈ B) : RowsAt P w K mg base B' H all is vs := by
  induction r with
  | nil => exact .nil
  | cons q _ ih => exact .cons (q.weak h) ih
end
/-- found's list holds the rows so far; what is to come -/
def tRows (P : Program) (w : World) (K : PySem.W.Frag) (mg : PySem.Str → Option Value) (base : Heap) (T : List (Addr × PySem.Str)) (is : List Nat) : TS := fun D σ H => ∃ (p : Addr) (xs : List V) (x y z : V) (B : List Addr), σ[0]? = some (some x) ∧ σ[1]? = some (some y) ∧ σ[2]? = some (some z) ∧ σ[3]? = some (some (.ref p)) ∧
  H p = some (.lst xs) ∧ xs.length + is.length ≤ 100 ∧ Tabs T H ∧ (∀ b ∈ B, H b ≠ none) ∧ p ∈ B ∧ σ.length ≤ 10 ∧
  ∀ (H' : Hp) (vs : List V), ExtP p H H' → RowsAt P w K mg base B H' [x, y, z] is vs → H' p = some (.lst (xs ++ vs)) → Tabs T H' → D.rt (.ref p) H'
section
variable {X : Cx} {T : List (Addr × PySem.Str)} {st st0 : Stmt} {rest : List Stmt} {is : List Nat} {i : Nat} {te1 te2 : TE} {td : TA}
theorem ExtP.trans {p : Addr} {H H1 H2 : Hp} (a : ExtP p H H1) (b : ExtP p H1 H2) : ExtP p H H2 := fun c o n e t => b c o n (a c o n e t) t
theorem ExtP.of {p : Addr} {H H1 : Hp} (a : Ext H H1) : ExtP p H H1 := fun c o _ e _ => a c o e
theorem rows_nil {p1 p2 : Pos} (hN : X.N[3]? = some ("found" : PySem.Str)) (hV : Vis X.env.scope "found") : PSs X [.Return (some (.Name "found" p1)) p2] (tRows X.prog X.w X.K X.mg X.base T []) := by
  have D0 := pss_one (ps_ret (pos := p2) (pe_var (X := X) (i := 3) (pos := p1) hN hV))
  refine ⟨fun pins s σ H D I h => D0.run pins s σ H D I ?_⟩
  obtain ⟨p, xs, x, y, z, B, h0, h1, h2, h3, hp, hl, hT, hB, pB, _, k⟩ := h
  exact ⟨_, h3, k H [] (fun _ _ _ e _ => e) .nil (by rw [List.append_nil]; exact hp) hT⟩
theorem rows_cons (h : ∀ B, PS X st (tRow X.prog X.w X.K X.mg X.base T B i te1 te2 td))
    (m1 : ∀ (σ : L2.St) (H : Hp) (x y z : V), σ[0]? = some (some x) → σ[1]? = some (some y) → σ[2]? = some (some z) → Made te1 σ H (Ci X.K i) (fl i) (List.take (fl i).length [x, y, z]))
    (m2 : ∀ (σ : L2.St) (H : Hp) (x y z : V), σ[0]? = some (some x) → σ[1]? = some (some y) → σ[2]? = some (some z) → Made te2 σ H (Ci X.K i) (fl i) (List.take (fl i).length [x, y, z]))
    (m3 : ∀ (σ : L2.St) (H : Hp) (x y z : V) (Q : List V → Hp → Prop), σ[0]? = some (some x) → σ[1]? = some (some y) → σ[2]? = some (some z) → Q (List.take (fl i).length [x, y, z]) H → td σ H Q)
    (r : PSs X rest (tRows X.prog X.w X.K X.mg X.base T is)) : PSs X (st :: rest) (tRows X.prog X.w X.K X.mg X.base T (i :: is)) := by
  refine ⟨fun pins s σ H D I hh => ?_⟩
  obtain ⟨p, xs, x, y, z, B, h0, h1, h2, h3, hp, hl, hT, hB, pB, hσ, k⟩ := hh
  refine (pss_cons (h B) r).run pins s σ H D I ⟨p, xs, List.take (fl i).length [x, y, z], h3, hp, by rw [List.length_cons] at hl; omega, (by rw [List.length_take]; exact Nat.le_trans (Nat.min_le_right _ _) (by show 3 ≤ 100; decide)), hT, hB, m1 σ H x y z h0 h1 h2, fun H' _ => m2 σ H' x y z h0 h1 h2, fun H' Q q => m3 σ H' x y z Q h0 h1 h2 q, fun H' v k1 r1 hp1 T1 n1 => ?_⟩
  refine ⟨p, xs ++ [v], x, y, z, B, h0, h1, h2, h3, hp1, by simp only [List.length_append, List.length_cons, List.length_nil] at hl ⊢; omega, T1, fun b hb e => hB b hb (n1 b e), pB, hσ, fun H2 vs k2 r2 hp2 T2 => ?_⟩
  refine k H2 (v :: vs) (k1.trans k2) (.cons (r1.ext fun b o e n z => k2 b o (fun q => ?_) e n) r2) (by rw [hp2, List.append_assoc]; rfl) T2
  rcases z with z | z
  · rw [q, hp1] at e
    exact z _ (Option.some.inj e).symm
  · exact z (by rw [q]; exact pB)
/-- named = C(..), then the row with it -/
theorem rows_named {p1 p2 : Pos} {e0 : Expr} {te0 : TE} (nd : X.N.Nodup) (hN : X.N[4]? = some ("named" : PySem.Str)) (hV : Loc X.env.scope "named") (hV2 : Vis X.env.scope "named") (h0 : PE X e0 te0) (hs : swapsWith e0 (some (.Name "named" p1)) p2.line X.env = pure false) (hf : X.fn "named" = true ∨ X.env.scope.names.lookup ("named" : PySem.Str) = some .local)
    (m0 : ∀ (σ : L2.St) (H : Hp) (x y z : V), σ[0]? = some (some x) → σ[1]? = some (some y) → σ[2]? = some (some z) → Made te0 σ H (Ci X.K i) (fl i) (List.take (fl i).length [x, y, z]))
    (h : ∀ B, PS X st (tRow X.prog X.w X.K X.mg X.base T B i te1 (tVar 4) td))
    (m1 : ∀ (σ : L2.St) (H : Hp) (x y z : V), σ[0]? = some (some x) → σ[1]? = some (some y) → σ[2]? = some (some z) → Made te1 σ H (Ci X.K i) (fl i) (List.take (fl i).length [x, y, z]))
    (m3 : ∀ (σ : L2.St) (H : Hp) (x y z : V) (Q : List V → Hp → Prop), σ[0]? = some (some x) → σ[1]? = some (some y) → σ[2]? = some (some z) → Q (List.take (fl i).length [x, y, z]) H → td σ H Q)
    (r : PSs X rest (tRows X.prog X.w X.K X.mg X.base T is)) : PSs X (.Assign [.Name "named" p1] e0 p2 :: st :: rest) (tRows X.prog X.w X.K X.mg X.base T (i :: is)) := by
  refine ⟨fun pins s σ H D I hh => ?_⟩
  obtain ⟨p, xs, x, y, z, B, h0', h1, h2, h3, hp, hl, hT, hB, pB, hσ, k⟩ := hh
  have l4 : 4 < σ.length := by
    rw [I.len]
    exact (List.getElem?_eq_some_iff.mp hN).1
  refine (pss_cons (ps_set (i := 4) nd hN hV h0 hs hf) (pss_cons (h B) r)).run pins s σ H D I ?_
  refine m0 σ H x y z h0' h1 h2 _ fun a0 H0 ms0 x0 ea0 el0 => ?_
  have s0 : ∀ j, j ≠ 4 → (σ.set 4 (some (V.ref a0)))[j]? = σ[j]? := fun j hj => List.getElem?_set_ne (by omega)
  have g0 := (s0 0 (by decide)).trans h0'
  have g1 := (s0 1 (by decide)).trans h1
  have g2 := (s0 2 (by decide)).trans h2
  have g3 := (s0 3 (by decide)).trans h3
  refine ⟨p, xs, List.take (fl i).length [x, y, z], g3, x0 _ _ hp, by rw [List.length_cons] at hl; omega, (by rw [List.length_take]; exact Nat.le_trans (Nat.min_le_right _ _) (by show 3 ≤ 100; decide)), hT.ext x0, fun b hb e => hB b hb ?_, m1 _ _ x y z g0 g1 g2, fun H' k1 Q q => ⟨.ref a0, by rw [List.getElem?_set_self l4], q a0 H' ms0 (fun _ _ e => e) (ea0.ext fun b o e _ _ => k1 b o e) el0⟩, fun H' Q q => m3 _ H' x y z Q g0 g1 g2 q, fun H' v k1 r1 hp1 T1 n1 => ?_⟩
  · cases q : H b with
    | none => rfl
    | some o =>
      rw [x0 _ _ q] at e
      cases e
  refine ⟨p, xs ++ [v], x, y, z, B, g0, g1, g2, g3, hp1, by simp only [List.length_append, List.length_cons, List.length_nil] at hl ⊢; omega, T1, fun b hb e => hB b hb ?_, pB, by rw [List.length_set]; exact hσ, fun H2 vs k2 r2 hp2 T2 => ?_⟩
  · cases q : H b with
    | none => rfl
    | some o =>
      have := x0 _ _ q
      rw [n1 b e] at this
      cases this
  refine k H2 (v :: vs) (((ExtP.of x0).trans k1).trans k2) (.cons (r1.ext fun b o e n z => k2 b o (fun q => ?_) e n) r2) (by rw [hp2, List.append_assoc]; rfl) T2
  rcases z with z | z
  · rw [q, hp1] at e
    exact z _ (Option.some.inj e).symm
  · exact z (by rw [q]; exact pB)
end
end TBX

set_option Elab.async false
set_option linter.all false
set_option maxRecDepth 100000
set_option maxHeartbeats 4000000
namespace TBX
open PySem PySem.Spec PyProof.Rows L2 TB LamX NdefX
/-! ### the defs that make the rows -/
theorem funD_okC {P : Program} {w : World} {K : PySem.W.Frag} {mg : PySem.Str → Option Value} {base : Heap} {x qual : PySem.Str} {params : Arguments} {body : List Stmt} {scope : Scope} {dvs : List V} {kws : List (PySem.Str × V)} {p : He.Defn} {fd : FuncData} {CX : CXT} {N ps : List PySem.Str} {k : Nat} {sp : Sp} (F : FunD K x qual params body scope dvs kws (He.fAd K p) fd) (S : FnScope N ps scope) (len : ∀ vs H Q E, sp vs H Q E → vs.length = ps.length)
    (hbody : ∀ (A : Around) (outer : List Env) (s : Shared) (H : Hp) (vs : List V) (Q : VK) (E : XK), Room k (A.deeper (envOfC qual scope s.heap.objs.size (He.fAd K p) (.ref (He.cT K p).1))) → sp vs H Q E →
      ∃ t, PSs (cxOf CX P w K mg base N qual scope (He.fAd K p) (.ref (He.cT K p).1) A outer s H E) body t ∧ t { nx := fun _ H' => Q .non H', rt := Q } (start N vs) H) : FnOk P w K mg base CX (k + 1) (He.fAd K p) fd ps sp := by
  obtain ⟨oc, od, dV, kV, doc, pm, an, cdv, ct, osl, rfl, lk, hcd, _, _⟩ := F.ex
  obtain ⟨c, rfl⟩ := He.codeIn_ref hcd
  have e : (He.cT K p).1 = c := He.codeOf_eq lk rfl
  refine fn_of lk hcd S len fun A outer s H vs Q E hr hsp => ?_
  rw [← e] at hr ⊢
  exact hbody A outer s H vs Q E hr hsp
def qlam (q : PySem.Str) : PySem.Str := (envOfC q ⟨.function, [], false, false, []⟩ 0 0 .none).qual ++ "<lambda>"
abbrev tabA (K : PySem.W.Frag) : Addr := (He.cT K ("_law_made_a", none)).2
abbrev tabB (K : PySem.W.Frag) : Addr := (He.cT K ("_law_made_b", none)).2
abbrev tabC (K : PySem.W.Frag) : Addr := (He.cT K ("_law_made_c", none)).2
def TT (K : PySem.W.Frag) : List (Addr × PySem.Str) := [(tabA K, qlam "_law_made_a"), (tabB K, qlam "_law_made_b"), (tabC K, qlam "_law_made_c")]
theorem Facts.ab {K : PySem.W.Frag} (F : Facts K) : tabA K ≠ tabB K := apart_ne _ 0 1 _ _ F.tabs rfl rfl (by decide)
theorem Facts.ac {K : PySem.W.Frag} (F : Facts K) : tabA K ≠ tabC K := apart_ne _ 0 2 _ _ F.tabs rfl rfl (by decide)
theorem Facts.bc {K : PySem.W.Frag} (F : Facts K) : tabB K ≠ tabC K := apart_ne _ 1 2 _ _ F.tabs rfl rfl (by decide)
theorem huA {K : PySem.W.Frag} (F : Facts K) : ∀ p ∈ TT K, p.1 = tabA K → p.2 = qlam "_law_made_a" := fun p hp e => by
  simp only [TT, List.mem_cons, List.not_mem_nil, or_false] at hp
  rcases hp with rfl | rfl | rfl
  · rfl
  · exact (F.ab e.symm).elim
  · exact (F.ac e.symm).elim
theorem huB {K : PySem.W.Frag} (F : Facts K) : ∀ p ∈ TT K, p.1 = tabB K → p.2 = qlam "_law_made_b" := fun p hp e => by
  simp only [TT, List.mem_cons, List.not_mem_nil, or_false] at hp
  rcases hp with rfl | rfl | rfl
  · exact (F.ab e).elim
  · rfl
  · exact (F.bc e.symm).elim
theorem huC {K : PySem.W.Frag} (F : Facts K) : ∀ p ∈ TT K, p.1 = tabC K → p.2 = qlam "_law_made_c" := fun p hp e => by
  simp only [TT, List.mem_cons, List.not_mem_nil, or_false] at hp
  rcases hp with rfl | rfl | rfl
  · exact (F.ac e).elim
  · exact (F.bc e).elim
  · rfl
theorem hmA (K : PySem.W.Frag) : (tabA K, qlam "_law_made_a") ∈ TT K := List.mem_cons_self ..
theorem hmB (K : PySem.W.Frag) : (tabB K, qlam "_law_made_b") ∈ TT K := List.mem_cons_of_mem _ (List.mem_cons_self ..)
theorem hmC (K : PySem.W.Frag) : (tabC K, qlam "_law_made_c") ∈ TT K := List.mem_cons_of_mem _ (List.mem_cons_of_mem _ (List.mem_cons_self ..))
/-- every error class, as its callers take it -/
def ClsAll (P : Program) (w : World) (K : PySem.W.Frag) (mg : PySem.Str → Option Value) (base : Heap) : Prop := ∀ i, i < 52 → (fl i ≠ [] → ClN P w K mg base (nm i) (fl i) (Ci K i)) ∧ (fl i = [] → Cl0 K mg (nm i) (Ci K i))
/-! ### the exceptions of a row -/
section
variable {σ : L2.St} {H : Hp} {C : Addr} {f f2 f3 : PySem.Str} {x y z : V}
theorem made_P1 (h0 : σ[0]? = some (some x)) : Made (tMkP C [f] (tCons (tVar 0) tNil)) σ H C [f] [x] := fun Q k => ⟨x, h0, rfl, fun a H' n e ea => k a H' _ e ea (by simp)⟩
theorem made_K1 (h0 : σ[0]? = some (some x)) : Made (tMkK C [f] (tCons (tVar 0) tNil)) σ H C [f] [x] := fun Q k => ⟨x, h0, rfl, fun a H' n e ea => k a H' _ e ea (by simp)⟩
theorem made_0 : Made (tMk0 C) σ H C [] [] := fun Q k a H' n e ea => k a H' _ e ea rfl
theorem made_P2 (h0 : σ[0]? = some (some x)) (h1 : σ[1]? = some (some y)) : Made (tMkP C ["name", "why"] (tCons (tVar 0) (tCons (tVar 1) tNil))) σ H C ["name", "why"] [x, y] := fun Q k => ⟨x, h0, y, h1, rfl, fun a H' n e ea => k a H' _ e ea (by rfl)⟩
theorem made_K2 (h0 : σ[0]? = some (some x)) (h1 : σ[1]? = some (some y)) : Made (tMkK C ["name", "why"] (tCons (tVar 1) (tCons (tVar 0) tNil))) σ H C ["name", "why"] [x, y] := fun Q k => ⟨y, h1, x, h0, rfl, fun a H' n e ea => k a H' _ e ea (by rfl)⟩
theorem made_P3 (h0 : σ[0]? = some (some x)) (h1 : σ[1]? = some (some y)) (h2 : σ[2]? = some (some z)) : Made (tMkP C ["line", "column", "what"] (tCons (tVar 0) (tCons (tVar 1) (tCons (tVar 2) tNil)))) σ H C ["line", "column", "what"] [x, y, z] := fun Q k => ⟨x, h0, y, h1, z, h2, rfl, fun a H' n e ea => k a H' _ e ea (by rfl)⟩
theorem made_K3 (h0 : σ[0]? = some (some x)) (h1 : σ[1]? = some (some y)) (h2 : σ[2]? = some (some z)) : Made (tMkK C ["line", "column", "what"] (tCons (tVar 2) (tCons (tVar 1) (tCons (tVar 0) tNil)))) σ H C ["line", "column", "what"] [x, y, z] := fun Q k => ⟨z, h2, y, h1, x, h0, rfl, fun a H' n e ea => k a H' _ e ea (by rfl)⟩
theorem due_1 {Q : List V → Hp → Prop} (h0 : σ[0]? = some (some x)) (q : Q [x] H) : (tCons (tVar 0) tNil) σ H Q := ⟨x, h0, q⟩
theorem due_2 {Q : List V → Hp → Prop} (h0 : σ[0]? = some (some x)) (h1 : σ[1]? = some (some y)) (q : Q [x, y] H) : (tCons (tVar 0) (tCons (tVar 1) tNil)) σ H Q := ⟨x, h0, y, h1, q⟩
theorem due_3 {Q : List V → Hp → Prop} (h0 : σ[0]? = some (some x)) (h1 : σ[1]? = some (some y)) (h2 : σ[2]? = some (some z)) (q : Q [x, y, z] H) : (tCons (tVar 0) (tCons (tVar 1) (tCons (tVar 2) tNil))) σ H Q := ⟨x, h0, y, h1, z, h2, q⟩
end
def spMade (P : Program) (w : World) (K : PySem.W.Frag) (mg : PySem.Str → Option Value) (base : Heap) (is : List Nat) : Sp := fun vs H Q _ => ∃ (x y z : V) (B : List Addr), vs = [x, y, z] ∧ Tabs (TT K) H ∧ (∀ b ∈ B, H b ≠ none) ∧
  ∀ (p : Addr) (H' : Hp) (us : List V), H p = none → ExtN H H' → RowsAt P w K mg base B H' [x, y, z] is us → H' p = some (.lst us) → Tabs (TT K) H' → Q (.ref p) H'
theorem spMade_len {P : Program} {w : World} {K : PySem.W.Frag} {mg : PySem.Str → Option Value} {base : Heap} {is : List Nat} (vs : List V) (H : Hp) (Q : VK) (E : XK) (h : spMade P w K mg base is vs H Q E) : vs.length = (["x", "y", "z"] : List PySem.Str).length := by
  obtain ⟨x, y, z, B, rfl, _⟩ := h
  rfl
/-- behind found = [] -/
theorem made_start {P : Program} {w : World} {K : PySem.W.Frag} {mg : PySem.Str → Option Value} {base : Heap} {is : List Nat} {H : Hp} {x y z : V} {B : List Addr} {Q : VK} {σ : L2.St} {p : Addr} (hl : is.length ≤ 100) (hT : Tabs (TT K) H) (hB : ∀ b ∈ B, H b ≠ none)
    (k : ∀ (p : Addr) (H' : Hp) (us : List V), H p = none → ExtN H H' → RowsAt P w K mg base B H' [x, y, z] is us → H' p = some (.lst us) → Tabs (TT K) H' → Q (.ref p) H') (n : H p = none) (s0 : σ[0]? = some (some x)) (s1 : σ[1]? = some (some y)) (s2 : σ[2]? = some (some z)) (s3 : σ[3]? = some (some (.ref p))) (s4 : σ.length ≤ 10) :
    tRows P w K mg base (TT K) is { nx := fun _ H' => Q .non H', rt := Q } σ (upd H p (.lst [])) := by
  have e0 : ∀ b o, H b = some o → (upd H p (.lst [])) b = some o := fun b o e => by
    rw [upd_ne (ne_of_none e n)]
    exact e
  refine ⟨p, [], x, y, z, p :: B, s0, s1, s2, s3, upd_same, by simpa using hl, hT.ext e0, fun b hb => ?_, List.mem_cons_self .., s4, fun H' vs k1 r hp T1 => ?_⟩
  · rcases List.mem_cons.mp hb with e | hb
    · rw [e, upd_same]
      exact fun z => nomatch z
    · cases q : H b with
      | none => exact (hB b hb q).elim
      | some o =>
        rw [e0 b o q]
        exact fun z => nomatch z
  · exact k p H' vs n (fun b o e nt => k1 b o (ne_of_none e n) (e0 b o e) nt) (r.weak fun b hb => List.mem_cons_of_mem _ hb) hp T1

def isA : List Nat := [0, 1, 2, 3, 4, 5, 6, 7, 8, 9, 10, 11, 12, 13, 14, 15, 16, 17]
theorem scMadeA : FnScope ["x", "y", "z", "found"] ["x", "y", "z"] (defScope (top 58)) := ⟨rfl, rfl, rfl, by decide +kernel, rfl, by decide +kernel, by decide +kernel⟩
theorem ok_madeA {P : Program} {w : World} {K : PySem.W.Frag} {mg : PySem.Str → Option Value} {base : Heap} {fd : FuncData} (Z : Facts K) (c : ClsAll P w K mg base) (F : FnP K "_law_made_a" (top 58) (He.fAd K ("_law_made_a", none)) fd) (tb : TabB base mg (He.cT K ("_law_made_a", none)).1 (tabA K)) :
    FnOk P w K mg base CX0 3 (He.fAd K ("_law_made_a", none)) fd ["x", "y", "z"] (spMade P w K mg base isA) := by
  refine funD_okC (k := 2) F scMadeA spMade_len (fun A outer s H vs Q E hr h => ?_)
  obtain ⟨x, y, z, B, rfl, hT, hB, k⟩ := h
  have nd := scMadeA.nd
  have hu := huA Z
  refine ⟨_, PSs.nox (pss_cons (ps_set (i := 3) nd rfl (Or.inl rfl) (pe_lst pa_nil))
    (rows_cons (i := 0) (fun B => ps_row (i := 0) nd rfl (Or.inl rfl) tb rfl (hmA K) hu (.one fun _ => rfl) (pe_mkP ((c 0 (by decide)).1 (fun z => nomatch z)) hr (by decide) (by rfl) (pa_cons (pv 0) pa_nil)) (pe_mkK ((c 0 (by decide)).1 (fun z => nomatch z)) hr (by rfl) (pk_cons (pv 0) pk_nil)) (pa_cons (pv 0) pa_nil) rfl rfl rfl rfl) (fun _ _ _ _ _ h0 _ _ => made_P1 h0) (fun _ _ _ _ _ h0 _ _ => made_K1 h0) (fun _ _ _ _ _ _ h0 _ _ q => due_1 h0 q)
    (rows_cons (i := 1) (fun B => ps_row (i := 1) nd rfl (Or.inl rfl) tb rfl (hmA K) hu (.one fun _ => rfl) (pe_mkP ((c 1 (by decide)).1 (fun z => nomatch z)) hr (by decide) (by rfl) (pa_cons (pv 0) pa_nil)) (pe_mkK ((c 1 (by decide)).1 (fun z => nomatch z)) hr (by rfl) (pk_cons (pv 0) pk_nil)) (pa_cons (pv 0) pa_nil) rfl rfl rfl rfl) (fun _ _ _ _ _ h0 _ _ => made_P1 h0) (fun _ _ _ _ _ h0 _ _ => made_K1 h0) (fun _ _ _ _ _ _ h0 _ _ q => due_1 h0 q)
    (rows_cons (i := 2) (fun B => ps_row (i := 2) nd rfl (Or.inl rfl) tb rfl (hmA K) hu (.one fun _ => rfl) (pe_mkP ((c 2 (by decide)).1 (fun z => nomatch z)) hr (by decide) (by rfl) (pa_cons (pv 0) pa_nil)) (pe_mkK ((c 2 (by decide)).1 (fun z => nomatch z)) hr (by rfl) (pk_cons (pv 0) pk_nil)) (pa_cons (pv 0) pa_nil) rfl rfl rfl rfl) (fun _ _ _ _ _ h0 _ _ => made_P1 h0) (fun _ _ _ _ _ h0 _ _ => made_K1 h0) (fun _ _ _ _ _ _ h0 _ _ q => due_1 h0 q)
    (rows_cons (i := 3) (fun B => ps_row (i := 3) nd rfl (Or.inl rfl) tb rfl (hmA K) hu (.one fun _ => rfl) (pe_mkP ((c 3 (by decide)).1 (fun z => nomatch z)) hr (by decide) (by rfl) (pa_cons (pv 0) pa_nil)) (pe_mkK ((c 3 (by decide)).1 (fun z => nomatch z)) hr (by rfl) (pk_cons (pv 0) pk_nil)) (pa_cons (pv 0) pa_nil) rfl rfl rfl rfl) (fun _ _ _ _ _ h0 _ _ => made_P1 h0) (fun _ _ _ _ _ h0 _ _ => made_K1 h0) (fun _ _ _ _ _ _ h0 _ _ q => due_1 h0 q)
    (rows_cons (i := 4) (fun B => ps_row (i := 4) nd rfl (Or.inl rfl) tb rfl (hmA K) hu (.one fun _ => rfl) (pe_mkP ((c 4 (by decide)).1 (fun z => nomatch z)) hr (by decide) (by rfl) (pa_cons (pv 0) pa_nil)) (pe_mkK ((c 4 (by decide)).1 (fun z => nomatch z)) hr (by rfl) (pk_cons (pv 0) pk_nil)) (pa_cons (pv 0) pa_nil) rfl rfl rfl rfl) (fun _ _ _ _ _ h0 _ _ => made_P1 h0) (fun _ _ _ _ _ h0 _ _ => made_K1 h0) (fun _ _ _ _ _ _ h0 _ _ q => due_1 h0 q)
    (rows_cons (i := 5) (fun B => ps_row (i := 5) nd rfl (Or.inl rfl) tb rfl (hmA K) hu (.one fun _ => rfl) (pe_mkP ((c 5 (by decide)).1 (fun z => nomatch z)) hr (by decide) (by rfl) (pa_cons (pv 0) pa_nil)) (pe_mkK ((c 5 (by decide)).1 (fun z => nomatch z)) hr (by rfl) (pk_cons (pv 0) pk_nil)) (pa_cons (pv 0) pa_nil) rfl rfl rfl rfl) (fun _ _ _ _ _ h0 _ _ => made_P1 h0) (fun _ _ _ _ _ h0 _ _ => made_K1 h0) (fun _ _ _ _ _ _ h0 _ _ q => due_1 h0 q)
    (rows_cons (i := 6) (fun B => ps_row (i := 6) nd rfl (Or.inl rfl) tb rfl (hmA K) hu (.one fun _ => rfl) (pe_mkP ((c 6 (by decide)).1 (fun z => nomatch z)) hr (by decide) (by rfl) (pa_cons (pv 0) pa_nil)) (pe_mkK ((c 6 (by decide)).1 (fun z => nomatch z)) hr (by rfl) (pk_cons (pv 0) pk_nil)) (pa_cons (pv 0) pa_nil) rfl rfl rfl rfl) (fun _ _ _ _ _ h0 _ _ => made_P1 h0) (fun _ _ _ _ _ h0 _ _ => made_K1 h0) (fun _ _ _ _ _ _ h0 _ _ q => due_1 h0 q)
    (rows_cons (i := 7) (fun B => ps_row (i := 7) nd rfl (Or.inl rfl) tb rfl (hmA K) hu (.one fun _ => rfl) (pe_mkP ((c 7 (by decide)).1 (fun z => nomatch z)) hr (by decide) (by rfl) (pa_cons (pv 0) pa_nil)) (pe_mkK ((c 7 (by decide)).1 (fun z => nomatch z)) hr (by rfl) (pk_cons (pv 0) pk_nil)) (pa_cons (pv 0) pa_nil) rfl rfl rfl rfl) (fun _ _ _ _ _ h0 _ _ => made_P1 h0) (fun _ _ _ _ _ h0 _ _ => made_K1 h0) (fun _ _ _ _ _ _ h0 _ _ q => due_1 h0 q)
    (rows_cons (i := 8) (fun B => ps_row (i := 8) nd rfl (Or.inl rfl) tb rfl (hmA K) hu (.one fun _ => rfl) (pe_mkP ((c 8 (by decide)).1 (fun z => nomatch z)) hr (by decide) (by rfl) (pa_cons (pv 0) pa_nil)) (pe_mkK ((c 8 (by decide)).1 (fun z => nomatch z)) hr (by rfl) (pk_cons (pv 0) pk_nil)) (pa_cons (pv 0) pa_nil) rfl rfl rfl rfl) (fun _ _ _ _ _ h0 _ _ => made_P1 h0) (fun _ _ _ _ _ h0 _ _ => made_K1 h0) (fun _ _ _ _ _ _ h0 _ _ q => due_1 h0 q)
    (rows_cons (i := 9) (fun B => ps_row (i := 9) nd rfl (Or.inl rfl) tb rfl (hmA K) hu (.one fun _ => rfl) (pe_mkP ((c 9 (by decide)).1 (fun z => nomatch z)) hr (by decide) (by rfl) (pa_cons (pv 0) pa_nil)) (pe_mkK ((c 9 (by decide)).1 (fun z => nomatch z)) hr (by rfl) (pk_cons (pv 0) pk_nil)) (pa_cons (pv 0) pa_nil) rfl rfl rfl rfl) (fun _ _ _ _ _ h0 _ _ => made_P1 h0) (fun _ _ _ _ _ h0 _ _ => made_K1 h0) (fun _ _ _ _ _ _ h0 _ _ q => due_1 h0 q)
    (rows_cons (i := 10) (fun B => ps_row (i := 10) nd rfl (Or.inl rfl) tb rfl (hmA K) hu (.one fun _ => rfl) (pe_mkP ((c 10 (by decide)).1 (fun z => nomatch z)) hr (by decide) (by rfl) (pa_cons (pv 0) pa_nil)) (pe_mkK ((c 10 (by decide)).1 (fun z => nomatch z)) hr (by rfl) (pk_cons (pv 0) pk_nil)) (pa_cons (pv 0) pa_nil) rfl rfl rfl rfl) (fun _ _ _ _ _ h0 _ _ => made_P1 h0) (fun _ _ _ _ _ h0 _ _ => made_K1 h0) (fun _ _ _ _ _ _ h0 _ _ q => due_1 h0 q)
    (rows_cons (i := 11) (fun B => ps_row (i := 11) nd rfl (Or.inl rfl) tb rfl (hmA K) hu (.one fun _ => rfl) (pe_mkP ((c 11 (by decide)).1 (fun z => nomatch z)) hr (by decide) (by rfl) (pa_cons (pv 0) pa_nil)) (pe_mkK ((c 11 (by decide)).1 (fun z => nomatch z)) hr (by rfl) (pk_cons (pv 0) pk_nil)) (pa_cons (pv 0) pa_nil) rfl rfl rfl rfl) (fun _ _ _ _ _ h0 _ _ => made_P1 h0) (fun _ _ _ _ _ h0 _ _ => made_K1 h0) (fun _ _ _ _ _ _ h0 _ _ q => due_1 h0 q)
    (rows_cons (i := 12) (fun B => ps_row (i := 12) nd rfl (Or.inl rfl) tb rfl (hmA K) hu (.one fun _ => rfl) (pe_mkP ((c 12 (by decide)).1 (fun z => nomatch z)) hr (by decide) (by rfl) (pa_cons (pv 0) pa_nil)) (pe_mkK ((c 12 (by decide)).1 (fun z => nomatch z)) hr (by rfl) (pk_cons (pv 0) pk_nil)) (pa_cons (pv 0) pa_nil) rfl rfl rfl rfl) (fun _ _ _ _ _ h0 _ _ => made_P1 h0) (fun _ _ _ _ _ h0 _ _ => made_K1 h0) (fun _ _ _ _ _ _ h0 _ _ q => due_1 h0 q)
    (rows_cons (i := 13) (fun B => ps_row (i := 13) nd rfl (Or.inl rfl) tb rfl (hmA K) hu (.one fun _ => rfl) (pe_mkP ((c 13 (by decide)).1 (fun z => nomatch z)) hr (by decide) (by rfl) (pa_cons (pv 0) pa_nil)) (pe_mkK ((c 13 (by decide)).1 (fun z => nomatch z)) hr (by rfl) (pk_cons (pv 0) pk_nil)) (pa_cons (pv 0) pa_nil) rfl rfl rfl rfl) (fun _ _ _ _ _ h0 _ _ => made_P1 h0) (fun _ _ _ _ _ h0 _ _ => made_K1 h0) (fun _ _ _ _ _ _ h0 _ _ q => due_1 h0 q)
    (rows_cons (i := 14) (fun B => ps_row (i := 14) nd rfl (Or.inl rfl) tb rfl (hmA K) hu (.one fun _ => rfl) (pe_mkP ((c 14 (by decide)).1 (fun z => nomatch z)) hr (by decide) (by rfl) (pa_cons (pv 0) pa_nil)) (pe_mkK ((c 14 (by decide)).1 (fun z => nomatch z)) hr (by rfl) (pk_cons (pv 0) pk_nil)) (pa_cons (pv 0) pa_nil) rfl rfl rfl rfl) (fun _ _ _ _ _ h0 _ _ => made_P1 h0) (fun _ _ _ _ _ h0 _ _ => made_K1 h0) (fun _ _ _ _ _ _ h0 _ _ q => due_1 h0 q)
    (rows_cons (i := 15) (fun B => ps_row (i := 15) nd rfl (Or.inl rfl) tb rfl (hmA K) hu (.one fun _ => rfl) (pe_mkP ((c 15 (by decide)).1 (fun z => nomatch z)) hr (by decide) (by rfl) (pa_cons (pv 0) pa_nil)) (pe_mkK ((c 15 (by decide)).1 (fun z => nomatch z)) hr (by rfl) (pk_cons (pv 0) pk_nil)) (pa_cons (pv 0) pa_nil) rfl rfl rfl rfl) (fun _ _ _ _ _ h0 _ _ => made_P1 h0) (fun _ _ _ _ _ h0 _ _ => made_K1 h0) (fun _ _ _ _ _ _ h0 _ _ q => due_1 h0 q)
    (rows_cons (i := 16) (fun B => ps_row (i := 16) nd rfl (Or.inl rfl) tb rfl (hmA K) hu (.one fun _ => rfl) (pe_mkP ((c 16 (by decide)).1 (fun z => nomatch z)) hr (by decide) (by rfl) (pa_cons (pv 0) pa_nil)) (pe_mkK ((c 16 (by decide)).1 (fun z => nomatch z)) hr (by rfl) (pk_cons (pv 0) pk_nil)) (pa_cons (pv 0) pa_nil) rfl rfl rfl rfl) (fun _ _ _ _ _ h0 _ _ => made_P1 h0) (fun _ _ _ _ _ h0 _ _ => made_K1 h0) (fun _ _ _ _ _ _ h0 _ _ q => due_1 h0 q)
    (rows_cons (i := 17) (fun B => ps_row (i := 17) nd rfl (Or.inl rfl) tb rfl (hmA K) hu (.one fun _ => rfl) (pe_mkP ((c 17 (by decide)).1 (fun z => nomatch z)) hr (by decide) (by rfl) (pa_cons (pv 0) pa_nil)) (pe_mkK ((c 17 (by decide)).1 (fun z => nomatch z)) hr (by rfl) (pk_cons (pv 0) pk_nil)) (pa_cons (pv 0) pa_nil) rfl rfl rfl rfl) (fun _ _ _ _ _ h0 _ _ => made_P1 h0) (fun _ _ _ _ _ h0 _ _ => made_K1 h0) (fun _ _ _ _ _ _ h0 _ _ q => due_1 h0 q)
    (rows_nil rfl (Or.inl rfl))))))))))))))))))))), ?_⟩
  exact ⟨Nat.zero_le _, fun p n => made_start (by decide) hT hB k n rfl rfl rfl rfl (by show 4 ≤ 10; decide)⟩
def isB : List Nat := [18, 19, 20, 21, 22, 23, 24, 25, 26, 27, 28, 29, 30, 31, 32, 33, 34, 35]
theorem scMadeB : FnScope ["x", "y", "z", "found", "named"] ["x", "y", "z"] (defScope (top 59)) := ⟨rfl, rfl, rfl, by decide +kernel, rfl, by decide +kernel, by decide +kernel⟩
theorem ok_madeB {P : Program} {w : World} {K : PySem.W.Frag} {mg : PySem.Str → Option Value} {base : Heap} {fd : FuncData} (Z : Facts K) (c : ClsAll P w K mg base) (F : FnP K "_law_made_b" (top 59) (He.fAd K ("_law_made_b", none)) fd) (tb : TabB base mg (He.cT K ("_law_made_b", none)).1 (tabB K)) :
    FnOk P w K mg base CX0 3 (He.fAd K ("_law_made_b", none)) fd ["x", "y", "z"] (spMade P w K mg base isB) := by
  refine funD_okC (k := 2) F scMadeB spMade_len (fun A outer s H vs Q E hr h => ?_)
  obtain ⟨x, y, z, B, rfl, hT, hB, k⟩ := h
  have nd := scMadeB.nd
  have hu := huB Z
  refine ⟨_, PSs.nox (pss_cons (ps_set (i := 3) nd rfl (Or.inl rfl) (pe_lst pa_nil))
    (rows_cons (i := 18) (fun B => ps_row (i := 18) nd rfl (Or.inl rfl) tb rfl (hmB K) hu (.one fun _ => rfl) (pe_mkP ((c 18 (by decide)).1 (fun z => nomatch z)) hr (by decide) (by rfl) (pa_cons (pv 0) pa_nil)) (pe_mkK ((c 18 (by decide)).1 (fun z => nomatch z)) hr (by rfl) (pk_cons (pv 0) pk_nil)) (pa_cons (pv 0) pa_nil) rfl rfl rfl rfl) (fun _ _ _ _ _ h0 _ _ => made_P1 h0) (fun _ _ _ _ _ h0 _ _ => made_K1 h0) (fun _ _ _ _ _ _ h0 _ _ q => due_1 h0 q)
    (rows_cons (i := 19) (fun B => ps_row (i := 19) nd rfl (Or.inl rfl) tb rfl (hmB K) hu (.one fun _ => rfl) (pe_mkP ((c 19 (by decide)).1 (fun z => nomatch z)) hr (by decide) (by rfl) (pa_cons (pv 0) pa_nil)) (pe_mkK ((c 19 (by decide)).1 (fun z => nomatch z)) hr (by rfl) (pk_cons (pv 0) pk_nil)) (pa_cons (pv 0) pa_nil) rfl rfl rfl rfl) (fun _ _ _ _ _ h0 _ _ => made_P1 h0) (fun _ _ _ _ _ h0 _ _ => made_K1 h0) (fun _ _ _ _ _ _ h0 _ _ q => due_1 h0 q)
    (rows_cons (i := 20) (fun B => ps_row (i := 20) nd rfl (Or.inl rfl) tb rfl (hmB K) hu (.one fun _ => rfl) (pe_mkP ((c 20 (by decide)).1 (fun z => nomatch z)) hr (by decide) (by rfl) (pa_cons (pv 0) pa_nil)) (pe_mkK ((c 20 (by decide)).1 (fun z => nomatch z)) hr (by rfl) (pk_cons (pv 0) pk_nil)) (pa_cons (pv 0) pa_nil) rfl rfl rfl rfl) (fun _ _ _ _ _ h0 _ _ => made_P1 h0) (fun _ _ _ _ _ h0 _ _ => made_K1 h0) (fun _ _ _ _ _ _ h0 _ _ q => due_1 h0 q)
    (rows_cons (i := 21) (fun B => ps_row (i := 21) nd rfl (Or.inl rfl) tb rfl (hmB K) hu (.one fun _ => rfl) (pe_mkP ((c 21 (by decide)).1 (fun z => nomatch z)) hr (by decide) (by rfl) (pa_cons (pv 0) pa_nil)) (pe_mkK ((c 21 (by decide)).1 (fun z => nomatch z)) hr (by rfl) (pk_cons (pv 0) pk_nil)) (pa_cons (pv 0) pa_nil) rfl rfl rfl rfl) (fun _ _ _ _ _ h0 _ _ => made_P1 h0) (fun _ _ _ _ _ h0 _ _ => made_K1 h0) (fun _ _ _ _ _ _ h0 _ _ q => due_1 h0 q)
    (rows_cons (i := 22) (fun B => ps_row (i := 22) nd rfl (Or.inl rfl) tb rfl (hmB K) hu (.one fun _ => rfl) (pe_mkP ((c 22 (by decide)).1 (fun z => nomatch z)) hr (by decide) (by rfl) (pa_cons (pv 0) pa_nil)) (pe_mkK ((c 22 (by decide)).1 (fun z => nomatch z)) hr (by rfl) (pk_cons (pv 0) pk_nil)) (pa_cons (pv 0) pa_nil) rfl rfl rfl rfl) (fun _ _ _ _ _ h0 _ _ => made_P1 h0) (fun _ _ _ _ _ h0 _ _ => made_K1 h0) (fun _ _ _ _ _ _ h0 _ _ q => due_1 h0 q)
    (rows_cons (i := 23) (fun B => ps_row (i := 23) nd rfl (Or.inl rfl) tb rfl (hmB K) hu (.one fun _ => rfl) (pe_mkP ((c 23 (by decide)).1 (fun z => nomatch z)) hr (by decide) (by rfl) (pa_cons (pv 0) pa_nil)) (pe_mkK ((c 23 (by decide)).1 (fun z => nomatch z)) hr (by rfl) (pk_cons (pv 0) pk_nil)) (pa_cons (pv 0) pa_nil) rfl rfl rfl rfl) (fun _ _ _ _ _ h0 _ _ => made_P1 h0) (fun _ _ _ _ _ h0 _ _ => made_K1 h0) (fun _ _ _ _ _ _ h0 _ _ q => due_1 h0 q)
    (rows_cons (i := 24) (fun B => ps_row (i := 24) nd rfl (Or.inl rfl) tb rfl (hmB K) hu (.one fun _ => rfl) (pe_mkP ((c 24 (by decide)).1 (fun z => nomatch z)) hr (by decide) (by rfl) (pa_cons (pv 0) pa_nil)) (pe_mkK ((c 24 (by decide)).1 (fun z => nomatch z)) hr (by rfl) (pk_cons (pv 0) pk_nil)) (pa_cons (pv 0) pa_nil) rfl rfl rfl rfl) (fun _ _ _ _ _ h0 _ _ => made_P1 h0) (fun _ _ _ _ _ h0 _ _ => made_K1 h0) (fun _ _ _ _ _ _ h0 _ _ q => due_1 h0 q)
    (rows_cons (i := 25) (fun B => ps_row (i := 25) nd rfl (Or.inl rfl) tb rfl (hmB K) hu (.one fun _ => rfl) (pe_mkP ((c 25 (by decide)).1 (fun z => nomatch z)) hr (by decide) (by rfl) (pa_cons (pv 0) pa_nil)) (pe_mkK ((c 25 (by decide)).1 (fun z => nomatch z)) hr (by rfl) (pk_cons (pv 0) pk_nil)) (pa_cons (pv 0) pa_nil) rfl rfl rfl rfl) (fun _ _ _ _ _ h0 _ _ => made_P1 h0) (fun _ _ _ _ _ h0 _ _ => made_K1 h0) (fun _ _ _ _ _ _ h0 _ _ q => due_1 h0 q)
    (rows_cons (i := 26) (fun B => ps_row (i := 26) nd rfl (Or.inl rfl) tb rfl (hmB K) hu (.one fun _ => rfl) (pe_mkP ((c 26 (by decide)).1 (fun z => nomatch z)) hr (by decide) (by rfl) (pa_cons (pv 0) pa_nil)) (pe_mkK ((c 26 (by decide)).1 (fun z => nomatch z)) hr (by rfl) (pk_cons (pv 0) pk_nil)) (pa_cons (pv 0) pa_nil) rfl rfl rfl rfl) (fun _ _ _ _ _ h0 _ _ => made_P1 h0) (fun _ _ _ _ _ h0 _ _ => made_K1 h0) (fun _ _ _ _ _ _ h0 _ _ q => due_1 h0 q)
    (rows_cons (i := 27) (fun B => ps_row (i := 27) nd rfl (Or.inl rfl) tb rfl (hmB K) hu (.one fun _ => rfl) (pe_mkP ((c 27 (by decide)).1 (fun z => nomatch z)) hr (by decide) (by rfl) (pa_cons (pv 0) pa_nil)) (pe_mkK ((c 27 (by decide)).1 (fun z => nomatch z)) hr (by rfl) (pk_cons (pv 0) pk_nil)) (pa_cons (pv 0) pa_nil) rfl rfl rfl rfl) (fun _ _ _ _ _ h0 _ _ => made_P1 h0) (fun _ _ _ _ _ h0 _ _ => made_K1 h0) (fun _ _ _ _ _ _ h0 _ _ q => due_1 h0 q)
    (rows_cons (i := 28) (fun B => ps_row (i := 28) nd rfl (Or.inl rfl) tb rfl (hmB K) hu (.one fun _ => rfl) (pe_mkP ((c 28 (by decide)).1 (fun z => nomatch z)) hr (by decide) (by rfl) (pa_cons (pv 0) pa_nil)) (pe_mkK ((c 28 (by decide)).1 (fun z => nomatch z)) hr (by rfl) (pk_cons (pv 0) pk_nil)) (pa_cons (pv 0) pa_nil) rfl rfl rfl rfl) (fun _ _ _ _ _ h0 _ _ => made_P1 h0) (fun _ _ _ _ _ h0 _ _ => made_K1 h0) (fun _ _ _ _ _ _ h0 _ _ q => due_1 h0 q)
    (rows_cons (i := 29) (fun B => ps_row (i := 29) nd rfl (Or.inl rfl) tb rfl (hmB K) hu (.one fun _ => rfl) (pe_mkP ((c 29 (by decide)).1 (fun z => nomatch z)) hr (by decide) (by rfl) (pa_cons (pv 0) pa_nil)) (pe_mkK ((c 29 (by decide)).1 (fun z => nomatch z)) hr (by rfl) (pk_cons (pv 0) pk_nil)) (pa_cons (pv 0) pa_nil) rfl rfl rfl rfl) (fun _ _ _ _ _ h0 _ _ => made_P1 h0) (fun _ _ _ _ _ h0 _ _ => made_K1 h0) (fun _ _ _ _ _ _ h0 _ _ q => due_1 h0 q)
    (rows_named (i := 30) nd rfl (Or.inl rfl) (Or.inl rfl) (pe_mkK ((c 30 (by decide)).1 (fun z => nomatch z)) hr (by rfl) (pk_cons (pv 2) (pk_cons (pv 1) (pk_cons (pv 0) pk_nil)))) rfl (Or.inl rfl) (fun _ _ _ _ _ h0 h1 h2 => made_K3 h0 h1 h2) (fun B => ps_row (i := 30) nd rfl (Or.inl rfl) tb rfl (hmB K) hu (.three (fun _ => rfl) (fun _ => rfl) fun _ => rfl) (pe_mkP ((c 30 (by decide)).1 (fun z => nomatch z)) hr (by decide) (by rfl) (pa_cons (pv 0) (pa_cons (pv 1) (pa_cons (pv 2) pa_nil)))) (pe_var (i := 4) rfl (Or.inl rfl)) (pa_cons (pv 0) (pa_cons (pv 1) (pa_cons (pv 2) pa_nil))) rfl rfl rfl rfl) (fun _ _ _ _ _ h0 h1 h2 => made_P3 h0 h1 h2) (fun _ _ _ _ _ _ h0 h1 h2 q => due_3 h0 h1 h2 q)
    (rows_cons (i := 31) (fun B => ps_row (i := 31) nd rfl (Or.inl rfl) tb rfl (hmB K) hu (.one fun _ => rfl) (pe_mkP ((c 31 (by decide)).1 (fun z => nomatch z)) hr (by decide) (by rfl) (pa_cons (pv 0) pa_nil)) (pe_mkK ((c 31 (by decide)).1 (fun z => nomatch z)) hr (by rfl) (pk_cons (pv 0) pk_nil)) (pa_cons (pv 0) pa_nil) rfl rfl rfl rfl) (fun _ _ _ _ _ h0 _ _ => made_P1 h0) (fun _ _ _ _ _ h0 _ _ => made_K1 h0) (fun _ _ _ _ _ _ h0 _ _ q => due_1 h0 q)
    (rows_cons (i := 32) (fun B => ps_row (i := 32) nd rfl (Or.inl rfl) tb rfl (hmB K) hu .z (pe_mk0 ((c 32 (by decide)).2 rfl) (by rfl)) (pe_mk0 ((c 32 (by decide)).2 rfl) (by rfl)) pa_nil rfl rfl rfl rfl) (fun _ _ _ _ _ _ _ _ => made_0) (fun _ _ _ _ _ _ _ _ => made_0) (fun _ _ _ _ _ _ _ _ _ q => q)
    (rows_cons (i := 33) (fun B => ps_row (i := 33) nd rfl (Or.inl rfl) tb rfl (hmB K) hu (.one fun _ => rfl) (pe_mkP ((c 33 (by decide)).1 (fun z => nomatch z)) hr (by decide) (by rfl) (pa_cons (pv 0) pa_nil)) (pe_mkK ((c 33 (by decide)).1 (fun z => nomatch z)) hr (by rfl) (pk_cons (pv 0) pk_nil)) (pa_cons (pv 0) pa_nil) rfl rfl rfl rfl) (fun _ _ _ _ _ h0 _ _ => made_P1 h0) (fun _ _ _ _ _ h0 _ _ => made_K1 h0) (fun _ _ _ _ _ _ h0 _ _ q => due_1 h0 q)
    (rows_cons (i := 34) (fun B => ps_row (i := 34) nd rfl (Or.inl rfl) tb rfl (hmB K) hu (.one fun _ => rfl) (pe_mkP ((c 34 (by decide)).1 (fun z => nomatch z)) hr (by decide) (by rfl) (pa_cons (pv 0) pa_nil)) (pe_mkK ((c 34 (by decide)).1 (fun z => nomatch z)) hr (by rfl) (pk_cons (pv 0) pk_nil)) (pa_cons (pv 0) pa_nil) rfl rfl rfl rfl) (fun _ _ _ _ _ h0 _ _ => made_P1 h0) (fun _ _ _ _ _ h0 _ _ => made_K1 h0) (fun _ _ _ _ _ _ h0 _ _ q => due_1 h0 q)
    (rows_cons (i := 35) (fun B => ps_row (i := 35) nd rfl (Or.inl rfl) tb rfl (hmB K) hu (.two (fun _ => rfl) fun _ => rfl) (pe_mkP ((c 35 (by decide)).1 (fun z => nomatch z)) hr (by decide) (by rfl) (pa_cons (pv 0) (pa_cons (pv 1) pa_nil))) (pe_mkK ((c 35 (by decide)).1 (fun z => nomatch z)) hr (by rfl) (pk_cons (pv 1) (pk_cons (pv 0) pk_nil))) (pa_cons (pv 0) (pa_cons (pv 1) pa_nil)) rfl rfl rfl rfl) (fun _ _ _ _ _ h0 h1 _ => made_P2 h0 h1) (fun _ _ _ _ _ h0 h1 _ => made_K2 h0 h1) (fun _ _ _ _ _ _ h0 h1 _ q => due_2 h0 h1 q)
    (rows_nil rfl (Or.inl rfl))))))))))))))))))))), ?_⟩
  exact ⟨Nat.zero_le _, fun p n => made_start (by decide) hT hB k n rfl rfl rfl rfl (by show 5 ≤ 10; decide)⟩
def isC : List Nat := [36, 37, 38, 39, 40, 41, 42, 43, 44, 45, 46, 47, 48, 49, 50, 51]
theorem scMadeC : FnScope ["x", "y", "z", "found"] ["x", "y", "z"] (defScope (top 60)) := ⟨rfl, rfl, rfl, by decide +kernel, rfl, by decide +kernel, by decide +kernel⟩
theorem ok_madeC {P : Program} {w : World} {K : PySem.W.Frag} {mg : PySem.Str → Option Value} {base : Heap} {fd : FuncData} (Z : Facts K) (c : ClsAll P w K mg base) (F : FnP K "_law_made_c" (top 60) (He.fAd K ("_law_made_c", none)) fd) (tb : TabB base mg (He.cT K ("_law_made_c", none)).1 (tabC K)) :
    FnOk P w K mg base CX0 3 (He.fAd K ("_law_made_c", none)) fd ["x", "y", "z"] (spMade P w K mg base isC) := by
  refine funD_okC (k := 2) F scMadeC spMade_len (fun A outer s H vs Q E hr h => ?_)
  obtain ⟨x, y, z, B, rfl, hT, hB, k⟩ := h
  have nd := scMadeC.nd
  have hu := huC Z
  refine ⟨_, PSs.nox (pss_cons (ps_set (i := 3) nd rfl (Or.inl rfl) (pe_lst pa_nil))
    (rows_cons (i := 36) (fun B => ps_row (i := 36) nd rfl (Or.inl rfl) tb rfl (hmC K) hu .z (pe_mk0 ((c 36 (by decide)).2 rfl) (by rfl)) (pe_mk0 ((c 36 (by decide)).2 rfl) (by rfl)) pa_nil rfl rfl rfl rfl) (fun _ _ _ _ _ _ _ _ => made_0) (fun _ _ _ _ _ _ _ _ => made_0) (fun _ _ _ _ _ _ _ _ _ q => q)
    (rows_cons (i := 37) (fun B => ps_row (i := 37) nd rfl (Or.inl rfl) tb rfl (hmC K) hu .z (pe_mk0 ((c 37 (by decide)).2 rfl) (by rfl)) (pe_mk0 ((c 37 (by decide)).2 rfl) (by rfl)) pa_nil rfl rfl rfl rfl) (fun _ _ _ _ _ _ _ _ => made_0) (fun _ _ _ _ _ _ _ _ => made_0) (fun _ _ _ _ _ _ _ _ _ q => q)
    (rows_cons (i := 38) (fun B => ps_row (i := 38) nd rfl (Or.inl rfl) tb rfl (hmC K) hu .z (pe_mk0 ((c 38 (by decide)).2 rfl) (by rfl)) (pe_mk0 ((c 38 (by decide)).2 rfl) (by rfl)) pa_nil rfl rfl rfl rfl) (fun _ _ _ _ _ _ _ _ => made_0) (fun _ _ _ _ _ _ _ _ => made_0) (fun _ _ _ _ _ _ _ _ _ q => q)
    (rows_cons (i := 39) (fun B => ps_row (i := 39) nd rfl (Or.inl rfl) tb rfl (hmC K) hu (.one fun _ => rfl) (pe_mkP ((c 39 (by decide)).1 (fun z => nomatch z)) hr (by decide) (by rfl) (pa_cons (pv 0) pa_nil)) (pe_mkK ((c 39 (by decide)).1 (fun z => nomatch z)) hr (by rfl) (pk_cons (pv 0) pk_nil)) (pa_cons (pv 0) pa_nil) rfl rfl rfl rfl) (fun _ _ _ _ _ h0 _ _ => made_P1 h0) (fun _ _ _ _ _ h0 _ _ => made_K1 h0) (fun _ _ _ _ _ _ h0 _ _ q => due_1 h0 q)
    (rows_cons (i := 40) (fun B => ps_row (i := 40) nd rfl (Or.inl rfl) tb rfl (hmC K) hu .z (pe_mk0 ((c 40 (by decide)).2 rfl) (by rfl)) (pe_mk0 ((c 40 (by decide)).2 rfl) (by rfl)) pa_nil rfl rfl rfl rfl) (fun _ _ _ _ _ _ _ _ => made_0) (fun _ _ _ _ _ _ _ _ => made_0) (fun _ _ _ _ _ _ _ _ _ q => q)
    (rows_cons (i := 41) (fun B => ps_row (i := 41) nd rfl (Or.inl rfl) tb rfl (hmC K) hu (.one fun _ => rfl) (pe_mkP ((c 41 (by decide)).1 (fun z => nomatch z)) hr (by decide) (by rfl) (pa_cons (pv 0) pa_nil)) (pe_mkK ((c 41 (by decide)).1 (fun z => nomatch z)) hr (by rfl) (pk_cons (pv 0) pk_nil)) (pa_cons (pv 0) pa_nil) rfl rfl rfl rfl) (fun _ _ _ _ _ h0 _ _ => made_P1 h0) (fun _ _ _ _ _ h0 _ _ => made_K1 h0) (fun _ _ _ _ _ _ h0 _ _ q => due_1 h0 q)
    (rows_cons (i := 42) (fun B => ps_row (i := 42) nd rfl (Or.inl rfl) tb rfl (hmC K) hu (.one fun _ => rfl) (pe_mkP ((c 42 (by decide)).1 (fun z => nomatch z)) hr (by decide) (by rfl) (pa_cons (pv 0) pa_nil)) (pe_mkK ((c 42 (by decide)).1 (fun z => nomatch z)) hr (by rfl) (pk_cons (pv 0) pk_nil)) (pa_cons (pv 0) pa_nil) rfl rfl rfl rfl) (fun _ _ _ _ _ h0 _ _ => made_P1 h0) (fun _ _ _ _ _ h0 _ _ => made_K1 h0) (fun _ _ _ _ _ _ h0 _ _ q => due_1 h0 q)
    (rows_cons (i := 43) (fun B => ps_row (i := 43) nd rfl (Or.inl rfl) tb rfl (hmC K) hu .z (pe_mk0 ((c 43 (by decide)).2 rfl) (by rfl)) (pe_mk0 ((c 43 (by decide)).2 rfl) (by rfl)) pa_nil rfl rfl rfl rfl) (fun _ _ _ _ _ _ _ _ => made_0) (fun _ _ _ _ _ _ _ _ => made_0) (fun _ _ _ _ _ _ _ _ _ q => q)
    (rows_cons (i := 44) (fun B => ps_row (i := 44) nd rfl (Or.inl rfl) tb rfl (hmC K) hu (.one fun _ => rfl) (pe_mkP ((c 44 (by decide)).1 (fun z => nomatch z)) hr (by decide) (by rfl) (pa_cons (pv 0) pa_nil)) (pe_mkK ((c 44 (by decide)).1 (fun z => nomatch z)) hr (by rfl) (pk_cons (pv 0) pk_nil)) (pa_cons (pv 0) pa_nil) rfl rfl rfl rfl) (fun _ _ _ _ _ h0 _ _ => made_P1 h0) (fun _ _ _ _ _ h0 _ _ => made_K1 h0) (fun _ _ _ _ _ _ h0 _ _ q => due_1 h0 q)
    (rows_cons (i := 45) (fun B => ps_row (i := 45) nd rfl (Or.inl rfl) tb rfl (hmC K) hu (.one fun _ => rfl) (pe_mkP ((c 45 (by decide)).1 (fun z => nomatch z)) hr (by decide) (by rfl) (pa_cons (pv 0) pa_nil)) (pe_mkK ((c 45 (by decide)).1 (fun z => nomatch z)) hr (by rfl) (pk_cons (pv 0) pk_nil)) (pa_cons (pv 0) pa_nil) rfl rfl rfl rfl) (fun _ _ _ _ _ h0 _ _ => made_P1 h0) (fun _ _ _ _ _ h0 _ _ => made_K1 h0) (fun _ _ _ _ _ _ h0 _ _ q => due_1 h0 q)
    (rows_cons (i := 46) (fun B => ps_row (i := 46) nd rfl (Or.inl rfl) tb rfl (hmC K) hu .z (pe_mk0 ((c 46 (by decide)).2 rfl) (by rfl)) (pe_mk0 ((c 46 (by decide)).2 rfl) (by rfl)) pa_nil rfl rfl rfl rfl) (fun _ _ _ _ _ _ _ _ => made_0) (fun _ _ _ _ _ _ _ _ => made_0) (fun _ _ _ _ _ _ _ _ _ q => q)
    (rows_cons (i := 47) (fun B => ps_row (i := 47) nd rfl (Or.inl rfl) tb rfl (hmC K) hu .z (pe_mk0 ((c 47 (by decide)).2 rfl) (by rfl)) (pe_mk0 ((c 47 (by decide)).2 rfl) (by rfl)) pa_nil rfl rfl rfl rfl) (fun _ _ _ _ _ _ _ _ => made_0) (fun _ _ _ _ _ _ _ _ => made_0) (fun _ _ _ _ _ _ _ _ _ q => q)
    (rows_cons (i := 48) (fun B => ps_row (i := 48) nd rfl (Or.inl rfl) tb rfl (hmC K) hu (.one fun _ => rfl) (pe_mkP ((c 48 (by decide)).1 (fun z => nomatch z)) hr (by decide) (by rfl) (pa_cons (pv 0) pa_nil)) (pe_mkK ((c 48 (by decide)).1 (fun z => nomatch z)) hr (by rfl) (pk_cons (pv 0) pk_nil)) (pa_cons (pv 0) pa_nil) rfl rfl rfl rfl) (fun _ _ _ _ _ h0 _ _ => made_P1 h0) (fun _ _ _ _ _ h0 _ _ => made_K1 h0) (fun _ _ _ _ _ _ h0 _ _ q => due_1 h0 q)
    (rows_cons (i := 49) (fun B => ps_row (i := 49) nd rfl (Or.inl rfl) tb rfl (hmC K) hu (.one fun _ => rfl) (pe_mkP ((c 49 (by decide)).1 (fun z => nomatch z)) hr (by decide) (by rfl) (pa_cons (pv 0) pa_nil)) (pe_mkK ((c 49 (by decide)).1 (fun z => nomatch z)) hr (by rfl) (pk_cons (pv 0) pk_nil)) (pa_cons (pv 0) pa_nil) rfl rfl rfl rfl) (fun _ _ _ _ _ h0 _ _ => made_P1 h0) (fun _ _ _ _ _ h0 _ _ => made_K1 h0) (fun _ _ _ _ _ _ h0 _ _ q => due_1 h0 q)
    (rows_cons (i := 50) (fun B => ps_row (i := 50) nd rfl (Or.inl rfl) tb rfl (hmC K) hu (.one fun _ => rfl) (pe_mkP ((c 50 (by decide)).1 (fun z => nomatch z)) hr (by decide) (by rfl) (pa_cons (pv 0) pa_nil)) (pe_mkK ((c 50 (by decide)).1 (fun z => nomatch z)) hr (by rfl) (pk_cons (pv 0) pk_nil)) (pa_cons (pv 0) pa_nil) rfl rfl rfl rfl) (fun _ _ _ _ _ h0 _ _ => made_P1 h0) (fun _ _ _ _ _ h0 _ _ => made_K1 h0) (fun _ _ _ _ _ _ h0 _ _ q => due_1 h0 q)
    (rows_cons (i := 51) (fun B => ps_row (i := 51) nd rfl (Or.inl rfl) tb rfl (hmC K) hu (.one fun _ => rfl) (pe_mkP ((c 51 (by decide)).1 (fun z => nomatch z)) hr (by decide) (by rfl) (pa_cons (pv 0) pa_nil)) (pe_mkK ((c 51 (by decide)).1 (fun z => nomatch z)) hr (by rfl) (pk_cons (pv 0) pk_nil)) (pa_cons (pv 0) pa_nil) rfl rfl rfl rfl) (fun _ _ _ _ _ h0 _ _ => made_P1 h0) (fun _ _ _ _ _ h0 _ _ => made_K1 h0) (fun _ _ _ _ _ _ h0 _ _ q => due_1 h0 q)
    (rows_nil rfl (Or.inl rfl))))))))))))))))))), ?_⟩
  exact ⟨Nat.zero_le _, fun p n => made_start (by decide) hT hB k n rfl rfl rfl rfl (by show 4 ≤ 10; decide)⟩
end TBX

set_option Elab.async false
set_option linter.all false
set_option maxRecDepth 100000
set_option maxHeartbeats 4000000
namespace TBX
open PySem PySem.Spec PyProof.Rows L2 TB LamX NdefX
/-! ### _law_kinds_a, _b, _c -/
/-- what is asked of an exception at a: its class's answers -/
structure Asked (K : PySem.W.Frag) (H : Hp) (a C : Addr) (fs : List (PySem.Str × V)) (b : Nat → Bool) : Prop where
  T : ErrC K C
  e : ErrAt H a C fs
  k : ∀ j, j < 52 → PySem.W.kitOne K (.ref C) (.ref (Ci K j)) = some (b j)
theorem Asked.ext {K : PySem.W.Frag} {H H' : Hp} {a C : Addr} {fs : List (PySem.Str × V)} {b : Nat → Bool} (x : Asked K H a C fs b) (k : ∀ c o, H c = some o → (∀ xs, o ≠ .lst xs) → H' c = some o) : Asked K H' a C fs b := ⟨x.T, x.e.ext fun c o e n _ => k c o e n, x.k⟩
def kV (b : Nat → Bool) (is : List Nat) : List V := is.map fun j => V.bl (b j)
def spKinds (K : PySem.W.Frag) (is : List Nat) : Sp := fun vs H Q _ => ∃ (a C : Addr) (fs : List (PySem.Str × V)) (b : Nat → Bool), vs = [.ref a] ∧ Asked K H a C fs b ∧ ∀ (D : Addr) (H' : Hp), H D = none → Ext H H' → H' D = some (.lst (kV b is)) → Q (.ref D) H'
theorem spKinds_len {K : PySem.W.Frag} {is : List Nat} (vs : List V) (H : Hp) (Q : VK) (E : XK) (h : spKinds K is vs H Q E) : vs.length = (["e"] : List PySem.Str).length := by
  obtain ⟨a, C, fs, b, rfl, _⟩ := h
  rfl
def tKs (K : PySem.W.Frag) (is : List Nat) : TS := fun D σ H => ∃ (p : Addr) (xs : List V) (a C : Addr) (fs : List (PySem.Str × V)) (b : Nat → Bool), σ[0]? = some (some (.ref a)) ∧ σ[1]? = some (some (.ref p)) ∧ Asked K H a C fs b ∧ H p = some (.lst xs) ∧ xs.length + is.length ≤ 200 ∧ (∀ j ∈ is, j < 52) ∧
  ∀ H' : Hp, (∀ c o, c ≠ p → H c = some o → H' c = some o) → H' p = some (.lst (xs ++ kV b is)) → D.rt (.ref p) H'
section
variable {X : Cx} {rest : List Stmt} {is : List Nat}
theorem ks_nil {p1 p2 : Pos} (hN : X.N[1]? = some ("found" : PySem.Str)) (hV : Vis X.env.scope "found") : PSs X [.Return (some (.Name "found" p1)) p2] (tKs X.K []) := by
  have D0 := pss_one (ps_ret (pos := p2) (pe_var (X := X) (i := 1) (pos := p1) hN hV))
  refine ⟨fun pins s σ H D I h => D0.run pins s σ H D I ?_⟩
  obtain ⟨p, xs, a, C, fs, b, h0, h1, hA, hp, hl, hi, k⟩ := h
  exact ⟨_, h1, k H (fun _ _ _ e => e) (by rw [hp]; simp [kV])⟩
theorem ks_cons {i j : Nat} {x1 x2 : PySem.Str} {p1 p2 p4 p5 p6 q1 q2 q3 q4 r1 r2 r3 r4 : Pos} (G : ErrG X.K) (hN0 : X.N[0]? = some ("e" : PySem.Str)) (hV0 : Vis X.env.scope "e") (hN : X.N[1]? = some ("found" : PySem.Str)) (hV : Vis X.env.scope "found") (gI : Gl X "isinstance") (mI : X.mg "isinstance" = none)
    (g1 : Gl X x1) (m1 : X.mg x1 = some (.ref (Ci X.K i))) (g2 : Gl X x2) (m2 : X.mg x2 = some (.ref (Ci X.K j))) (d1 : (x1 == ("__debug__" : PySem.Str)) = false) (d2 : (x2 == ("__debug__" : PySem.Str)) = false) (hl0 : (p2.endLine == p5.line) = true)
    (hs : swapsWith (.Call (.Attribute (.Name "found" p1) "extend" p2) [.List [.Call (.Name "isinstance" q1) [.Name "e" q2, .Name x1 q3] [] q4, .Call (.Name "isinstance" r1) [.Name "e" r2, .Name x2 r3] [] r4] p4] [] p5) none p6.line X.env = pure false)
    (r : PSs X rest (tKs X.K is)) :
    PSs X (.Expr (.Call (.Attribute (.Name "found" p1) "extend" p2) [.List [.Call (.Name "isinstance" q1) [.Name "e" q2, .Name x1 q3] [] q4, .Call (.Name "isinstance" r1) [.Name "e" r2, .Name x2 r3] [] r4] p4] [] p5) p6 :: rest) (tKs X.K (i :: j :: is)) := by
  have D0 := pss_cons (ps_expr (pos := p6) (pe_bm PySem.F.plainAttrs_list PySem.F.slot_list_extend PySem.F.type_list_extend mt_extend (pe_var (X := X) (i := 1) (pos := p1) hN hV)
    (pa_cons (pe_lst (pos := p4) (pa_cons (pe_callB (call_isX G) gI mI PyProof.Rows.boot_isinstance (pa_cons (pe_var (i := 0) (pos := q2) hN0 hV0) (pa_cons (pe_glob (v := .ref (Ci X.K i)) (pos := q3) g1 m1 rfl d1) pa_nil)))
      (pa_cons (pe_callB (call_isX G) gI mI PyProof.Rows.boot_isinstance (pa_cons (pe_var (i := 0) (pos := r2) hN0 hV0) (pa_cons (pe_glob (v := .ref (Ci X.K j)) (pos := r3) g2 m2 rfl d2) pa_nil))) pa_nil))) pa_nil) (hline := hl0)) hs) r
  refine ⟨fun pins s σ H D I h => D0.run pins s σ H D I ?_⟩
  obtain ⟨p, xs, a, C, fs, b, h0, h1, hA, hp, hl, hi, k⟩ := h
  refine ⟨_, h1, .inl ⟨rfl, _, SqL.of hp⟩, ?_⟩
  refine ⟨_, h0, a, C, fs, .ref (Ci X.K i), _, b i, rfl, .own _, hA.T, hA.e, hA.k i (hi i (by simp)), ?_⟩
  refine ⟨_, h0, a, C, fs, .ref (Ci X.K j), _, b j, rfl, .own _, hA.T, hA.e, hA.k j (hi j (by simp)), ?_⟩
  refine ⟨(by show 2 ≤ sizeLine; decide), fun q hq => ?_⟩
  have npq := ne_of_none hp hq
  refine ⟨p, q, xs, _, rfl, rfl, by rw [upd_ne npq]; exact hp, upd_same, ?_, ?_⟩
  · have : xs.length + 2 ≤ 200 := by simp only [List.length_cons] at hl; omega
    exact Nat.le_trans this (by decide)
  have up : ∀ c o, c ≠ p → H c = some o → (upd (upd H q (.lst [.bl (b i), .bl (b j)])) p (.lst (xs ++ [.bl (b i), .bl (b j)]))) c = some o := fun c o n e => by
    rw [upd_ne n, upd_ne (ne_of_none e hq)]
    exact e
  refine ⟨p, xs ++ [.bl (b i), .bl (b j)], a, C, fs, b, h0, h1, hA.ext fun c o e n => up c o (fun z => ?_) e, upd_same, by simp only [List.length_append, List.length_cons, List.length_nil] at hl ⊢; omega, fun z hz => hi z (by simp [hz]), fun H' k1 e1 => ?_⟩
  · rw [z, hp] at e
    exact n _ (Option.some.inj e).symm
  · refine k H' (fun c o n e => k1 c o n (up c o n e)) ?_
    rw [e1, List.append_assoc]
    rfl
end
theorem kinds_start {K : PySem.W.Frag} {is : List Nat} {H : Hp} {a C : Addr} {fs : List (PySem.Str × V)} {b : Nat → Bool} {Q : VK} {σ : L2.St} {p : Addr} (hl : is.length ≤ 200) (hi : ∀ j ∈ is, j < 52) (hA : Asked K H a C fs b)
    (k : ∀ (D : Addr) (H' : Hp), H D = none → Ext H H' → H' D = some (.lst (kV b is)) → Q (.ref D) H') (n : H p = none) (s0 : σ[0]? = some (some (.ref a))) (s1 : σ[1]? = some (some (.ref p))) :
    tKs K is { nx := fun _ H' => Q .non H', rt := Q } σ (upd H p (.lst [])) := by
  have e0 : ∀ b o, H b = some o → (upd H p (.lst [])) b = some o := fun b o e => by
    rw [upd_ne (ne_of_none e n)]
    exact e
  refine ⟨p, [], a, C, fs, b, s0, s1, hA.ext fun c o e _ => e0 c o e, upd_same, by simpa using hl, hi, fun H' k1 e1 => ?_⟩
  exact k p H' n (fun c o e => k1 c o (ne_of_none e n) (e0 c o e)) e1
end TBX

set_option Elab.async false
set_option linter.all false
set_option maxRecDepth 100000
set_option maxHeartbeats 4000000
namespace TBX
open PySem PySem.Spec PyProof.Rows L2 TB LamX NdefX
section
variable {P : Program} {w : World} {K : PySem.W.Frag} {mg : PySem.Str → Option Value} {base : Heap} {fd : FuncData} {f : Addr}
theorem ClsAll.m (c : ClsAll P w K mg base) (i : Nat) (h : i < 52) : mg (nm i) = some (.ref (Ci K i)) := by
  cases e : fl i with
  | nil => exact ((c i h).2 e).m
  | cons x xs => exact ((c i h).1 fun z => by rw [e] at z; cases z).m
theorem scKindsA : FnScope ["e", "found"] ["e"] (defScope (top 61)) := ⟨rfl, rfl, rfl, by decide +kernel, rfl, by decide +kernel, by decide +kernel⟩
theorem ok_kindsA (Z : Facts K) (c : ClsAll P w K mg base) (mI : mg "isinstance" = none) (F : FnP K "_law_kinds_a" (top 61) f fd) : FnOk P w K mg base CX0 1 f fd ["e"] (spKinds K isA) := by
  refine F.ok scKindsA spKinds_len (fun cdv A outer s H vs Q E hr h => ?_)
  obtain ⟨a, C, fs, b, rfl, hA, k⟩ := h
  have nd := scKindsA.nd
  refine ⟨_, PSs.nox (pss_cons (ps_set (i := 1) nd rfl (Or.inl rfl) (pe_lst pa_nil))
    (ks_cons (i := 0) (j := 1) Z.g rfl (Or.inl rfl) rfl (Or.inl rfl) (by rfl) mI (by rfl) (c.m 0 (by decide)) (by rfl) (c.m 1 (by decide)) rfl rfl rfl rfl
    (ks_cons (i := 2) (j := 3) Z.g rfl (Or.inl rfl) rfl (Or.inl rfl) (by rfl) mI (by rfl) (c.m 2 (by decide)) (by rfl) (c.m 3 (by decide)) rfl rfl rfl rfl
    (ks_cons (i := 4) (j := 5) Z.g rfl (Or.inl rfl) rfl (Or.inl rfl) (by rfl) mI (by rfl) (c.m 4 (by decide)) (by rfl) (c.m 5 (by decide)) rfl rfl rfl rfl
    (ks_cons (i := 6) (j := 7) Z.g rfl (Or.inl rfl) rfl (Or.inl rfl) (by rfl) mI (by rfl) (c.m 6 (by decide)) (by rfl) (c.m 7 (by decide)) rfl rfl rfl rfl
    (ks_cons (i := 8) (j := 9) Z.g rfl (Or.inl rfl) rfl (Or.inl rfl) (by rfl) mI (by rfl) (c.m 8 (by decide)) (by rfl) (c.m 9 (by decide)) rfl rfl rfl rfl
    (ks_cons (i := 10) (j := 11) Z.g rfl (Or.inl rfl) rfl (Or.inl rfl) (by rfl) mI (by rfl) (c.m 10 (by decide)) (by rfl) (c.m 11 (by decide)) rfl rfl rfl rfl
    (ks_cons (i := 12) (j := 13) Z.g rfl (Or.inl rfl) rfl (Or.inl rfl) (by rfl) mI (by rfl) (c.m 12 (by decide)) (by rfl) (c.m 13 (by decide)) rfl rfl rfl rfl
    (ks_cons (i := 14) (j := 15) Z.g rfl (Or.inl rfl) rfl (Or.inl rfl) (by rfl) mI (by rfl) (c.m 14 (by decide)) (by rfl) (c.m 15 (by decide)) rfl rfl rfl rfl
    (ks_cons (i := 16) (j := 17) Z.g rfl (Or.inl rfl) rfl (Or.inl rfl) (by rfl) mI (by rfl) (c.m 16 (by decide)) (by rfl) (c.m 17 (by decide)) rfl rfl rfl rfl
    (ks_nil rfl (Or.inl rfl)))))))))))), ?_⟩
  exact ⟨Nat.zero_le _, fun p n => kinds_start (by decide) (by decide) hA k n rfl rfl⟩
theorem scKindsB : FnScope ["e", "found"] ["e"] (defScope (top 62)) := ⟨rfl, rfl, rfl, by decide +kernel, rfl, by decide +kernel, by decide +kernel⟩
theorem ok_kindsB (Z : Facts K) (c : ClsAll P w K mg base) (mI : mg "isinstance" = none) (F : FnP K "_law_kinds_b" (top 62) f fd) : FnOk P w K mg base CX0 1 f fd ["e"] (spKinds K isB) := by
  refine F.ok scKindsB spKinds_len (fun cdv A outer s H vs Q E hr h => ?_)
  obtain ⟨a, C, fs, b, rfl, hA, k⟩ := h
  have nd := scKindsB.nd
  refine ⟨_, PSs.nox (pss_cons (ps_set (i := 1) nd rfl (Or.inl rfl) (pe_lst pa_nil))
    (ks_cons (i := 18) (j := 19) Z.g rfl (Or.inl rfl) rfl (Or.inl rfl) (by rfl) mI (by rfl) (c.m 18 (by decide)) (by rfl) (c.m 19 (by decide)) rfl rfl rfl rfl
    (ks_cons (i := 20) (j := 21) Z.g rfl (Or.inl rfl) rfl (Or.inl rfl) (by rfl) mI (by rfl) (c.m 20 (by decide)) (by rfl) (c.m 21 (by decide)) rfl rfl rfl rfl
    (ks_cons (i := 22) (j := 23) Z.g rfl (Or.inl rfl) rfl (Or.inl rfl) (by rfl) mI (by rfl) (c.m 22 (by decide)) (by rfl) (c.m 23 (by decide)) rfl rfl rfl rfl
    (ks_cons (i := 24) (j := 25) Z.g rfl (Or.inl rfl) rfl (Or.inl rfl) (by rfl) mI (by rfl) (c.m 24 (by decide)) (by rfl) (c.m 25 (by decide)) rfl rfl rfl rfl
    (ks_cons (i := 26) (j := 27) Z.g rfl (Or.inl rfl) rfl (Or.inl rfl) (by rfl) mI (by rfl) (c.m 26 (by decide)) (by rfl) (c.m 27 (by decide)) rfl rfl rfl rfl
    (ks_cons (i := 28) (j := 29) Z.g rfl (Or.inl rfl) rfl (Or.inl rfl) (by rfl) mI (by rfl) (c.m 28 (by decide)) (by rfl) (c.m 29 (by decide)) rfl rfl rfl rfl
    (ks_cons (i := 30) (j := 31) Z.g rfl (Or.inl rfl) rfl (Or.inl rfl) (by rfl) mI (by rfl) (c.m 30 (by decide)) (by rfl) (c.m 31 (by decide)) rfl rfl rfl rfl
    (ks_cons (i := 32) (j := 33) Z.g rfl (Or.inl rfl) rfl (Or.inl rfl) (by rfl) mI (by rfl) (c.m 32 (by decide)) (by rfl) (c.m 33 (by decide)) rfl rfl rfl rfl
    (ks_cons (i := 34) (j := 35) Z.g rfl (Or.inl rfl) rfl (Or.inl rfl) (by rfl) mI (by rfl) (c.m 34 (by decide)) (by rfl) (c.m 35 (by decide)) rfl rfl rfl rfl
    (ks_nil rfl (Or.inl rfl)))))))))))), ?_⟩
  exact ⟨Nat.zero_le _, fun p n => kinds_start (by decide) (by decide) hA k n rfl rfl⟩
theorem scKindsC : FnScope ["e", "found"] ["e"] (defScope (top 63)) := ⟨rfl, rfl, rfl, by decide +kernel, rfl, by decide +kernel, by decide +kernel⟩
theorem ok_kindsC (Z : Facts K) (c : ClsAll P w K mg base) (mI : mg "isinstance" = none) (F : FnP K "_law_kinds_c" (top 63) f fd) : FnOk P w K mg base CX0 1 f fd ["e"] (spKinds K isC) := by
  refine F.ok scKindsC spKinds_len (fun cdv A outer s H vs Q E hr h => ?_)
  obtain ⟨a, C, fs, b, rfl, hA, k⟩ := h
  have nd := scKindsC.nd
  refine ⟨_, PSs.nox (pss_cons (ps_set (i := 1) nd rfl (Or.inl rfl) (pe_lst pa_nil))
    (ks_cons (i := 36) (j := 37) Z.g rfl (Or.inl rfl) rfl (Or.inl rfl) (by rfl) mI (by rfl) (c.m 36 (by decide)) (by rfl) (c.m 37 (by decide)) rfl rfl rfl rfl
    (ks_cons (i := 38) (j := 39) Z.g rfl (Or.inl rfl) rfl (Or.inl rfl) (by rfl) mI (by rfl) (c.m 38 (by decide)) (by rfl) (c.m 39 (by decide)) rfl rfl rfl rfl
    (ks_cons (i := 40) (j := 41) Z.g rfl (Or.inl rfl) rfl (Or.inl rfl) (by rfl) mI (by rfl) (c.m 40 (by decide)) (by rfl) (c.m 41 (by decide)) rfl rfl rfl rfl
    (ks_cons (i := 42) (j := 43) Z.g rfl (Or.inl rfl) rfl (Or.inl rfl) (by rfl) mI (by rfl) (c.m 42 (by decide)) (by rfl) (c.m 43 (by decide)) rfl rfl rfl rfl
    (ks_cons (i := 44) (j := 45) Z.g rfl (Or.inl rfl) rfl (Or.inl rfl) (by rfl) mI (by rfl) (c.m 44 (by decide)) (by rfl) (c.m 45 (by decide)) rfl rfl rfl rfl
    (ks_cons (i := 46) (j := 47) Z.g rfl (Or.inl rfl) rfl (Or.inl rfl) (by rfl) mI (by rfl) (c.m 46 (by decide)) (by rfl) (c.m 47 (by decide)) rfl rfl rfl rfl
    (ks_cons (i := 48) (j := 49) Z.g rfl (Or.inl rfl) rfl (Or.inl rfl) (by rfl) mI (by rfl) (c.m 48 (by decide)) (by rfl) (c.m 49 (by decide)) rfl rfl rfl rfl
    (ks_cons (i := 50) (j := 51) Z.g rfl (Or.inl rfl) rfl (Or.inl rfl) (by rfl) mI (by rfl) (c.m 50 (by decide)) (by rfl) (c.m 51 (by decide)) rfl rfl rfl rfl
    (ks_nil rfl (Or.inl rfl))))))))))), ?_⟩
  exact ⟨Nat.zero_le _, fun p n => kinds_start (by decide) (by decide) hA k n rfl rfl⟩
theorem all52 : isA ++ isB ++ isC = List.range 52 := by decide +kernel
theorem kV_app (b : Nat → Bool) (is js : List Nat) : kV b is ++ kV b js = kV b (is ++ js) := by simp [kV]
theorem scKinds : FnScope ["e"] ["e"] (defScope (top 64)) := ⟨rfl, rfl, rfl, by decide +kernel, rfl, by decide +kernel, by decide +kernel⟩
theorem ok_kinds {fA fB fC : Addr} {fdA fdB fdC : FuncData} (F : FnP K "_law_kinds" (top 64) f fd) (GA : FnOk P w K mg base CX0 1 fA fdA ["e"] (spKinds K isA)) (GB : FnOk P w K mg base CX0 1 fB fdB ["e"] (spKinds K isB)) (GC : FnOk P w K mg base CX0 1 fC fdC ["e"] (spKinds K isC))
    (mA : mg "_law_kinds_a" = some (.ref fA)) (mB : mg "_law_kinds_b" = some (.ref fB)) (mC : mg "_law_kinds_c" = some (.ref fC)) (kA : PySem.W.keepIn K (.ref fA) = true) (kB : PySem.W.keepIn K (.ref fB) = true) (kC : PySem.W.keepIn K (.ref fC) = true)
    (bA : L2.Binds K fdA ["e"] []) (bB : L2.Binds K fdB ["e"] []) (bC : L2.Binds K fdC ["e"] []) : FnOk P w K mg base CX0 2 f fd ["e"] (spKinds K (List.range 52)) := by
  refine F.ok scKinds spKinds_len (fun cdv A outer s H vs Q E hr h => ?_)
  obtain ⟨a, C, fs, b, rfl, hA, k⟩ := h
  refine ⟨_, PSs.nox (pss_one (ps_ret (pe_op op_cat (pe_op op_cat (pe_call GA hr (by rfl) mA kA bA .nil pass0 (pa_cons (pv 0) pa_nil)) (pe_call GB hr (by rfl) mB kB bB .nil pass0 (pa_cons (pv 0) pa_nil))) (pe_call GC hr (by rfl) mC kC bC .nil pass0 (pa_cons (pv 0) pa_nil))))), ?_⟩
  refine ⟨_, rfl, a, C, fs, b, rfl, hA, fun D1 H1 n1 x1 e1 => ?_⟩
  have hA1 := hA.ext fun c o e _ => x1 c o e
  refine ⟨_, rfl, a, C, fs, b, rfl, hA1, fun D2 H2 n2 x2 e2 => ?_⟩
  have hA2 := hA1.ext fun c o e _ => x2 c o e
  refine ⟨D1, D2, _, _, rfl, rfl, x2 _ _ e1, e2, (by show 36 ≤ sizeLine; decide), fun D3 n3 => ?_⟩
  have x3 : Ext H2 (upd H2 D3 (.lst (kV b isA ++ kV b isB))) := fun c o e => by
    rw [upd_ne (ne_of_none e n3)]
    exact e
  have hA3 := hA2.ext fun c o e _ => x3 c o e
  refine ⟨_, rfl, a, C, fs, b, rfl, hA3, fun D4 H4 n4 x4 e4 => ?_⟩
  refine ⟨D3, D4, _, _, rfl, rfl, x4 _ _ upd_same, e4, (by show 52 ≤ sizeLine; decide), fun D5 n5 => ?_⟩
  have x5 : Ext H4 (upd H4 D5 (.lst (kV b isA ++ kV b isB ++ kV b isC))) := fun c o e => by
    rw [upd_ne (ne_of_none e n5)]
    exact e
  have n0 : H D5 = none := by
    cases q : H D5 with
    | none => rfl
    | some o =>
      rw [x4 _ _ (x3 _ _ (x2 _ _ (x1 _ _ q)))] at n5
      cases n5
  refine k D5 _ n0 (fun c o e => x5 _ _ (x4 _ _ (x3 _ _ (x2 _ _ (x1 _ _ e))))) ?_
  rw [upd_same, kV_app, kV_app, all52]
/-! ### _law_is_own -/
theorem blsAll (K : PySem.W.Frag) (H : Hp) : ∀ cs : List Bool, DpAll K H (cs.map V.bl) (cs.map PyData.bool)
  | [] => .nil
  | c :: cs => .cons (.bl c) (blsAll K H cs)
theorem canBls : ∀ cs : List Bool, PyData.canLayAll0 (cs.map PyData.bool) = true
  | [] => by simp only [List.map_nil, PyData.canLayAll0]
  | c :: cs => by
    simp only [List.map_cons, PyData.canLayAll0, PyData.canLay0, Bool.true_and]
    exact canBls cs
theorem depthBls : ∀ cs : List Bool, PyData.depthAll (cs.map PyData.bool) = 0
  | [] => by simp only [List.map_nil, PyData.depthAll]
  | c :: cs => by
    simp only [List.map_cons, PyData.depthAll, PyData.depth]
    rw [depthBls cs]
    rfl
theorem shapedBls (cs : List Bool) : SeqAt.shaped (.list (cs.map PyData.bool)) = true := by
  have h1 : PyData.canLay0 (.list (cs.map PyData.bool)) = true := by
    simp only [PyData.canLay0]
    exact canBls cs
  have h2 : PyData.depth (.list (cs.map PyData.bool)) ≤ 64 := by
    simp only [PyData.depth]
    rw [depthBls]
    decide
  unfold SeqAt.shaped
  rw [h1, decide_eq_true h2]
  rfl
theorem eqvBls : ∀ cs : List Bool, PyData.eqvAll (cs.map PyData.bool) (cs.map PyData.bool) = true
  | [] => by simp [PyData.eqvAll]
  | c :: cs => by
    have := eqvBls cs
    simp [PyData.eqvAll, PyData.eqv, this]
theorem eqInt (m i : Nat) : decide (V.int (0 + (m : Int)) = V.int (i : Int)) = decide (m = i) := by
  refine decide_eq_decide.mpr ⟨fun q => ?_, fun q => by rw [q, Int.zero_add]⟩
  injection q with q
  omega
theorem kV_bl (b : Nat → Bool) (is : List Nat) : kV b is = (is.map b).map V.bl := by simp [kV]
def spOwn (K : PySem.W.Frag) : Sp := fun vs H Q _ => ∃ (a i : Nat) (fs : List (PySem.Str × V)), vs = [.ref a, .int (i : Int)] ∧ i < 52 ∧ ErrAt H a (Ci K i) fs ∧ ∀ H', Ext H H' → Q (.bl true) H'
theorem scOwn : FnScope ["e", "at", "k"] ["e", "at"] (defScope (top 65)) := ⟨rfl, rfl, rfl, by decide +kernel, rfl, by decide +kernel, by decide +kernel⟩
theorem ok_own {fK : Addr} {fdK : FuncData} (Z : Facts K) (F : FnP K "_law_is_own" (top 65) f fd) (GK : FnOk P w K mg base CX0 2 fK fdK ["e"] (spKinds K (List.range 52))) (mK : mg "_law_kinds" = some (.ref fK)) (kK : PySem.W.keepIn K (.ref fK) = true) (bK : L2.Binds K fdK ["e"] [])
    (mI : mg "isinstance" = none) (mW : mg "WriteError" = some (.ref (Wb K))) (mV : mg "ValueError" = none) (mL : mg "LookupError" = none) (mA : mg "ArithmeticError" = none) (mT : mg "TypeError" = none) (mR : mg "range" = none) : FnOk P w K mg base CX0 3 f fd ["e", "at"] (spOwn K) := by
  refine F.ok scOwn (fun vs H Q E h => ?_) (fun cdv A outer s H vs Q E hr h => ?_)
  · obtain ⟨a, i, fs, rfl, _⟩ := h
    rfl
  obtain ⟨a, i, fs, rfl, hi, ea, k⟩ := h
  have nd := scOwn.nd
  have T := Z.C hi
  refine ⟨_, PSs.nox (pss_cons (ps_if (PW.pt (pw_or (pt_not (pt_val (pe_callB (call_isX Z.g) (by rfl) mI PyProof.Rows.boot_isinstance (pa_cons (pv 0) (pa_cons (pe_glob (v := .ref (Wb K)) (by rfl) mW rfl) pa_nil)))))
        (pw_or1 (pt_not (pt_val (pe_callB (call_isX Z.g) (by rfl) mI PyProof.Rows.boot_isinstance (pa_cons (pv 0) (pa_cons (pe_bltn (v := .ty "ValueError") (by rfl) mV PyProof.Rows.Boot.«ValueError» rfl) pa_nil)))))))) (pss_one (ps_ret pe_bl)) pss_nil)
    (pss_cons (ps_if (PW.pt (pw_or (pt_val (pe_callB (call_isX Z.g) (by rfl) mI PyProof.Rows.boot_isinstance (pa_cons (pv 0) (pa_cons (pe_bltn (v := .ty "LookupError") (by rfl) mL PyProof.Rows.Boot.«LookupError» rfl) pa_nil))))
        (pw_or (pt_val (pe_callB (call_isX Z.g) (by rfl) mI PyProof.Rows.boot_isinstance (pa_cons (pv 0) (pa_cons (pe_bltn (v := .ty "ArithmeticError") (by rfl) mA PyProof.Rows.Boot.«ArithmeticError» rfl) pa_nil))))
        (pw_or1 (pt_val (pe_callB (call_isX Z.g) (by rfl) mI PyProof.Rows.boot_isinstance (pa_cons (pv 0) (pa_cons (pe_bltn (v := .ty "TypeError") (by rfl) mT PyProof.Rows.Boot.«TypeError» rfl) pa_nil)))))))) (pss_one (ps_ret pe_bl)) pss_nil)
    (pss_one (ps_ret (pe_cmpR (op_eqD (u64 hr)) (pe_call GK hr (by rfl) mK kK bK .nil pass0 (pa_cons (pv 0) pa_nil))
      (pe_lc (te := tOp rEq (tVar 2) (tVar 1)) (own := [("k", 2)]) (g := gName 2) (tt := tYes) rfl nd (pi_range1 rfl mR (pa_cons pe_int pa_nil))
        (blkOk_by (N := ["e", "at", "k"]) (sc := defScope (top 65)) (by decide +kernel)) (fun _ _ _ _ _ => pg_name (i := 2) nd rfl (Or.inl rfl)) (fun _ _ _ _ _ => pts_nil)
        (fun _ _ _ _ _ => pe_cmpR op_eq (pv 2) (pv 1) (nomark _))) (nomark _)))))), ?_⟩
  refine ⟨_, rfl, a, _, fs, .ref (Wb K), _, true, rfl, .own _, T, ea, Z.kitW hi, true, rfl, ?_⟩
  refine ⟨_, rfl, a, _, fs, .ty "ValueError", _, true, rfl, .ty _, T, ea, Z.kitV hi, true, rfl, ?_⟩
  refine ⟨_, rfl, a, _, fs, .ty "LookupError", _, false, rfl, .ty _, T, ea, Z.kitL hi, false, rfl, ?_⟩
  refine ⟨_, rfl, a, _, fs, .ty "ArithmeticError", _, false, rfl, .ty _, T, ea, Z.kitA hi, false, rfl, ?_⟩
  refine ⟨_, rfl, a, _, fs, .ty "TypeError", _, false, rfl, .ty _, T, ea, Z.kitT hi, false, rfl, ?_⟩
  refine ⟨_, rfl, a, _, fs, fun j => decide (j = i), rfl, ⟨T, ea, fun j hj => Z.kit hi hj⟩, fun D1 H1 n1 x1 e1 => ?_⟩
  refine ⟨52, rfl, by omega, by omega, fun D hD => ?_⟩
  have nD : D1 ≠ D := ne_of_none e1 hD
  refine lc_range (n := 52) (fun m H' => H' D = some (.lst (kV (fun j => decide (j = i)) (List.range m))) ∧ ∀ c o, c ≠ D → H1 c = some o → H' c = some o) ?_ ?_ ?_
  · exact ⟨upd_same, fun c o n e => by rw [upd_ne n]; exact e⟩
  · rintro m H2 hm ⟨h2, x2⟩
    refine ⟨rfl, ?_⟩
    refine ⟨_, rfl, _, rfl, rfl, _, h2, ?_, ?_, fun c o n e => ?_⟩
    · simp only [kV, List.length_map, List.length_range]
      exact small1000 (by omega)
    · rw [upd_same]
      refine congrArg (fun z => some (HO.lst z)) ?_
      simp only [kV, List.range_succ, List.map_append, List.map_cons, List.map_nil]
      rw [eqInt]
    · rw [upd_ne n]
      exact x2 c o n e
  · rintro H2 ⟨h2, x2⟩
    have h2 : H2 D = some (.lst (kV (fun j => decide (j = i)) (List.range 52))) := h2
    have e3 := x2 _ _ nD e1
    rw [kV_bl] at h2 e3
    refine ⟨_, _, .lst (.inl (.inl e3)) (blsAll K H2 _), .lst (.inl (.inl h2)) (blsAll K H2 _), shapedBls _, shapedBls _, ?_⟩
    rw [show PyData.eqv (.list (((List.range 52).map fun j => decide (j = i)).map PyData.bool)) (.list (((List.range 52).map fun j => decide (j = i)).map PyData.bool)) = true by
      simp only [PyData.eqv]
      exact eqvBls _]
    exact k H2 fun c o e => x2 c o (fun q => by
      rw [q] at e
      have := x1 _ _ e
      rw [hD] at this
      cases this) (x1 _ _ e)
end
end TBX

set_option Elab.async false
set_option linter.all false
set_option maxRecDepth 100000
set_option maxHeartbeats 4000000
namespace TBX
open PySem PySem.Spec PyProof.Rows L2 TB LamX NdefX
/-! ### things that repr shows -/
structure Good (H : Hp) (v : V) (d : PyData) : Prop where
  r : Rp H v d
  s : d.showable = true
  dep : d.depth ≤ 10
  l : d.shown.length ≤ 100
mutual
theorem Rp.extN {H H' : Hp} (k : ExtN H H') : ∀ (d : PyData) (v : V), Rp H v d → Rp H' v d
  | _, _, .non => .non
  | _, _, .bl b => .bl b
  | _, _, .int i => .int i
  | _, _, .str x => .str x
  | .list ds, _, .lst h a => .lst (k _ _ h fun ps z => by cases z) (RpAll.extN k ds _ a)
  | .tuple ds, _, .tup h a => .tup (k _ _ h fun ps z => by cases z) (RpAll.extN k ds _ a)
  | _, _, .dic h => .dic (k _ _ h fun ps z => by cases z)
theorem RpAll.extN {H H' : Hp} (k : ExtN H H') : ∀ (ds : List PyData) (vs : List V), RpAll H vs ds → RpAll H' vs ds
  | [], _, .nil => .nil
  | d :: ds, _, .cons h a => .cons (Rp.extN k d _ h) (RpAll.extN k ds _ a)
end
theorem Good.extN {H H' : Hp} {v : V} {d : PyData} (g : Good H v d) (k : ExtN H H') : Good H' v d := ⟨Rp.extN k d v g.r, g.s, g.dep, g.l⟩
theorem Rp.ext {H H' : Hp} (k : Ext H H') (d : PyData) (v : V) (h : Rp H v d) : Rp H' v d := Rp.extN (ExtN.of k) d v h
theorem Good.ext {H H' : Hp} {v : V} {d : PyData} (g : Good H v d) (k : Ext H H') : Good H' v d := ⟨Rp.ext k d v g.r, g.s, g.dep, g.l⟩
def Goods (H : Hp) (vs : List V) : Prop := ∀ v ∈ vs, ∃ d, Good H v d
theorem Goods.ext {H H' : Hp} {vs : List V} (g : Goods H vs) (k : Ext H H') : Goods H' vs := fun v hv => let ⟨d, h⟩ := g v hv; ⟨d, h.ext k⟩
theorem Goods.extN {H H' : Hp} {vs : List V} (g : Goods H vs) (k : ExtN H H') : Goods H' vs := fun v hv => let ⟨d, h⟩ := g v hv; ⟨d, h.extN k⟩
theorem Goods.all {H : Hp} : ∀ (vs : List V), Goods H vs → ∃ ds : List PyData, RpAll H vs ds ∧ PyData.showableAll ds = true ∧ PyData.depthAll ds ≤ 10 ∧ ((PyData.shownAll ds).map (·.length)).sum ≤ 100 * vs.length ∧ (PyData.shownAll ds).length = vs.length
  | [], _ => ⟨[], .nil, by simp [PyData.showableAll], by simp [PyData.depthAll], by simp [PyData.shownAll], by simp [PyData.shownAll]⟩
  | v :: vs, g => by
    obtain ⟨d, h⟩ := g v (List.mem_cons_self ..)
    obtain ⟨ds, a, b, c, e, f⟩ := Goods.all vs fun u hu => g u (List.mem_cons_of_mem _ hu)
    refine ⟨d :: ds, .cons h.r a, by simp [PyData.showableAll, h.s, b], ?_, ?_, ?_⟩
    · simp only [PyData.depthAll]
      have := h.dep
      omega
    · simp only [PyData.shownAll, List.map_cons, List.sum_cons, List.length_cons]
      have := h.l
      omega
    · simp only [PyData.shownAll, List.length_cons, f]
theorem Goods.list {H : Hp} {vs : List V} {a : Addr} (g : Goods H vs) (hl : vs.length ≤ 3) : ∃ d : PyData, d.showable = true ∧ d.depth ≤ 60 ∧ d.shown.length ≤ sizeLine ∧ ∀ b, H b = some (.lst vs) → Rp H (.ref b) d := by
  obtain ⟨ds, r, b, c, e, f⟩ := Goods.all vs g
  refine ⟨.list ds, by simpa only [PyData.showable] using b, by simp only [PyData.depth]; omega, ?_, fun b hb => .lst hb r⟩
  have z := listText_len_le (PyData.shownAll ds)
  have y : (PyData.list ds).shown = listText (PyData.shownAll ds) := by simp only [PyData.shown]
  rw [y, sizeLine_eq]
  omega
/-! ### _law_are_these -/
def spThese : Sp := fun vs H Q _ => ∃ (a b : Addr) (xs : List V), vs = [.ref a, .ref b] ∧ H a = some (.lst xs) ∧ H b = some (.lst xs) ∧ Goods H xs ∧ xs.length ≤ 3 ∧ Q (.bl true) H
section
variable {P : Program} {w : World} {K : PySem.W.Frag} {mg : PySem.Str → Option Value} {base : Heap} {fd : FuncData} {f : Addr}
theorem scThese : FnScope ["found", "due"] ["found", "due"] (defScope (top 66)) := ⟨rfl, rfl, rfl, by decide +kernel, rfl, by decide +kernel, by decide +kernel⟩
theorem ok_these (Z : Facts K) (F : FnP K "_law_are_these" (top 66) f fd) (mR : mg "repr" = none) (mL : mg "len" = none) : FnG P w K mg base 1 f fd ["found", "due"] spThese := by
  refine fng_of F scThese (fun vs H Q E h => ?_) (fun cdv A outer s H vs Q hg hr h => ?_)
  · obtain ⟨a, b, xs, rfl, _⟩ := h
    rfl
  obtain ⟨a, b, xs, rfl, ha, hb, g, hl, k⟩ := h
  refine ⟨_, pss_one (ps_ret (pe_and (pe_cmpR op_eq (pe_callB (call_reprD hg (u64 hr) Z.sys) (by rfl) mR PyProof.Rows.boot_repr (pa_cons (pv 0) pa_nil)) (pe_callB (call_reprD hg (u64 hr) Z.sys) (by rfl) mR PyProof.Rows.boot_repr (pa_cons (pv 1) pa_nil)) (nomark _))
    (pe_one (pe_cmpR op_eq (pe_callB call_len_seq (by rfl) mL PySem.boot_len (pa_cons (pv 0) pa_nil)) (pe_callB call_len_seq (by rfl) mL PySem.boot_len (pa_cons (pv 1) pa_nil)) (nomark _))))), ?_⟩
  obtain ⟨d, h1, h2, h3, h4⟩ := g.list (a := a) hl
  refine ⟨_, rfl, a, d, rfl, h4 a ha, h1, h2, h3, ?_⟩
  refine ⟨_, rfl, b, d, rfl, h4 b hb, h1, h2, h3, ?_⟩
  refine ⟨rfl, true, by simp, ?_⟩
  rw [if_pos rfl]
  refine ⟨_, rfl, a, xs, rfl, .inl (SqL.of ha), ?_⟩
  refine ⟨_, rfl, b, xs, rfl, .inl (SqL.of hb), ?_⟩
  refine ⟨rfl, ?_⟩
  rw [show decide (V.int (xs.length : Int) = V.int (xs.length : Int)) = true from decide_eq_true rfl]
  exact k
end
end TBX

set_option Elab.async false
set_option linter.all false
set_option maxRecDepth 100000
set_option maxHeartbeats 4000000
namespace TBX
open PySem PySem.Spec PyProof.Rows L2 TB LamX NdefX
/-! ### the classes, as their callers take them -/
section
variable {P : Program} {w : World} {K : PySem.W.Frag} {mg : PySem.Str → Option Value} {base : Heap}
abbrev IniF (K : PySem.W.Frag) (i : Nat) (fd : FuncData) : Prop := FunD K "__init__" (nm i ++ ".__init__") (defArgs (initOf i)) (defBody (initOf i)) (defScope (initOf i)) [] [] (He.ma K (Ci K i) "__init__") fd
theorem cln_of {i : Nat} {fd : FuncData} (E : ErrF K (rowsE.getD i baseE)) (hn : fl i ≠ []) (m : mg (nm i) = some (.ref (Ci K i))) (h : FnOk P w K mg base CX0 1 (He.ma K (Ci K i) "__init__") fd (slf (fl i)) (spIni K (fl i)))
    (b1 : KBn K fd (slf (fl i)) ((fl i).length + 1) [] (fun us _ => us) (fun vs _ => vs)) (b2 : KBn K fd (slf (fl i)) 1 (fl i).reverse (fun us ws => us ++ ws.reverse) (fun vs zs => vs ++ zs.reverse)) : ClN P w K mg base (nm i) (fl i) (Ci K i) :=
  ⟨E.T, m, E.no, _, fd, (E.i1 hn).1, (E.i1 hn).2, h, b1, b2⟩
theorem cls_0 (E : ErrF K (rowsE.getD 0 baseE)) (m : mg (nm 0) = some (.ref (Ci K 0))) (h : ∃ fd, IniF K 0 fd) : ClN P w K mg base (nm 0) (fl 0) (Ci K 0) := by
  obtain ⟨fd, F⟩ := h
  exact cln_of E (fun z => nomatch z) m (ok_ini1 F rfl ⟨rfl, rfl, rfl, by decide +kernel, rfl, by decide +kernel, by decide +kernel⟩ (Or.inl rfl) (Or.inl rfl) rfl rfl (fun _ => rfl)) (kb_pos F fun _ _ _ _ _ _ us hl => match us, hl with | [_, _], _ => rfl) (kb_kw F fun _ _ _ _ _ _ us ws h1 h2 => match us, ws, h1, h2 with | [_], [_], _, _ => rfl)
theorem cls_1 (E : ErrF K (rowsE.getD 1 baseE)) (m : mg (nm 1) = some (.ref (Ci K 1))) (h : ∃ fd, IniF K 1 fd) : ClN P w K mg base (nm 1) (fl 1) (Ci K 1) := by
  obtain ⟨fd, F⟩ := h
  exact cln_of E (fun z => nomatch z) m (ok_ini1 F rfl ⟨rfl, rfl, rfl, by decide +kernel, rfl, by decide +kernel, by decide +kernel⟩ (Or.inl rfl) (Or.inl rfl) rfl rfl (fun _ => rfl)) (kb_pos F fun _ _ _ _ _ _ us hl => match us, hl with | [_, _], _ => rfl) (kb_kw F fun _ _ _ _ _ _ us ws h1 h2 => match us, ws, h1, h2 with | [_], [_], _, _ => rfl)
theorem cls_2 (E : ErrF K (rowsE.getD 2 baseE)) (m : mg (nm 2) = some (.ref (Ci K 2))) (h : ∃ fd, IniF K 2 fd) : ClN P w K mg base (nm 2) (fl 2) (Ci K 2) := by
  obtain ⟨fd, F⟩ := h
  exact cln_of E (fun z => nomatch z) m (ok_ini1 F rfl ⟨rfl, rfl, rfl, by decide +kernel, rfl, by decide +kernel, by decide +kernel⟩ (Or.inl rfl) (Or.inl rfl) rfl rfl (fun _ => rfl)) (kb_pos F fun _ _ _ _ _ _ us hl => match us, hl with | [_, _], _ => rfl) (kb_kw F fun _ _ _ _ _ _ us ws h1 h2 => match us, ws, h1, h2 with | [_], [_], _, _ => rfl)
theorem cls_3 (E : ErrF K (rowsE.getD 3 baseE)) (m : mg (nm 3) = some (.ref (Ci K 3))) (h : ∃ fd, IniF K 3 fd) : ClN P w K mg base (nm 3) (fl 3) (Ci K 3) := by
  obtain ⟨fd, F⟩ := h
  exact cln_of E (fun z => nomatch z) m (ok_ini1 F rfl ⟨rfl, rfl, rfl, by decide +kernel, rfl, by decide +kernel, by decide +kernel⟩ (Or.inl rfl) (Or.inl rfl) rfl rfl (fun _ => rfl)) (kb_pos F fun _ _ _ _ _ _ us hl => match us, hl with | [_, _], _ => rfl) (kb_kw F fun _ _ _ _ _ _ us ws h1 h2 => match us, ws, h1, h2 with | [_], [_], _, _ => rfl)
theorem cls_4 (E : ErrF K (rowsE.getD 4 baseE)) (m : mg (nm 4) = some (.ref (Ci K 4))) (h : ∃ fd, IniF K 4 fd) : ClN P w K mg base (nm 4) (fl 4) (Ci K 4) := by
  obtain ⟨fd, F⟩ := h
  exact cln_of E (fun z => nomatch z) m (ok_ini1 F rfl ⟨rfl, rfl, rfl, by decide +kernel, rfl, by decide +kernel, by decide +kernel⟩ (Or.inl rfl) (Or.inl rfl) rfl rfl (fun _ => rfl)) (kb_pos F fun _ _ _ _ _ _ us hl => match us, hl with | [_, _], _ => rfl) (kb_kw F fun _ _ _ _ _ _ us ws h1 h2 => match us, ws, h1, h2 with | [_], [_], _, _ => rfl)
theorem cls_5 (E : ErrF K (rowsE.getD 5 baseE)) (m : mg (nm 5) = some (.ref (Ci K 5))) (h : ∃ fd, IniF K 5 fd) : ClN P w K mg base (nm 5) (fl 5) (Ci K 5) := by
  obtain ⟨fd, F⟩ := h
  exact cln_of E (fun z => nomatch z) m (ok_ini1 F rfl ⟨rfl, rfl, rfl, by decide +kernel, rfl, by decide +kernel, by decide +kernel⟩ (Or.inl rfl) (Or.inl rfl) rfl rfl (fun _ => rfl)) (kb_pos F fun _ _ _ _ _ _ us hl => match us, hl with | [_, _], _ => rfl) (kb_kw F fun _ _ _ _ _ _ us ws h1 h2 => match us, ws, h1, h2 with | [_], [_], _, _ => rfl)
theorem cls_6 (E : ErrF K (rowsE.getD 6 baseE)) (m : mg (nm 6) = some (.ref (Ci K 6))) (h : ∃ fd, IniF K 6 fd) : ClN P w K mg base (nm 6) (fl 6) (Ci K 6) := by
  obtain ⟨fd, F⟩ := h
  exact cln_of E (fun z => nomatch z) m (ok_ini1 F rfl ⟨rfl, rfl, rfl, by decide +kernel, rfl, by decide +kernel, by decide +kernel⟩ (Or.inl rfl) (Or.inl rfl) rfl rfl (fun _ => rfl)) (kb_pos F fun _ _ _ _ _ _ us hl => match us, hl with | [_, _], _ => rfl) (kb_kw F fun _ _ _ _ _ _ us ws h1 h2 => match us, ws, h1, h2 with | [_], [_], _, _ => rfl)
theorem cls_7 (E : ErrF K (rowsE.getD 7 baseE)) (m : mg (nm 7) = some (.ref (Ci K 7))) (h : ∃ fd, IniF K 7 fd) : ClN P w K mg base (nm 7) (fl 7) (Ci K 7) := by
  obtain ⟨fd, F⟩ := h
  exact cln_of E (fun z => nomatch z) m (ok_ini1 F rfl ⟨rfl, rfl, rfl, by decide +kernel, rfl, by decide +kernel, by decide +kernel⟩ (Or.inl rfl) (Or.inl rfl) rfl rfl (fun _ => rfl)) (kb_pos F fun _ _ _ _ _ _ us hl => match us, hl with | [_, _], _ => rfl) (kb_kw F fun _ _ _ _ _ _ us ws h1 h2 => match us, ws, h1, h2 with | [_], [_], _, _ => rfl)
theorem cls_8 (E : ErrF K (rowsE.getD 8 baseE)) (m : mg (nm 8) = some (.ref (Ci K 8))) (h : ∃ fd, IniF K 8 fd) : ClN P w K mg base (nm 8) (fl 8) (Ci K 8) := by
  obtain ⟨fd, F⟩ := h
  exact cln_of E (fun z => nomatch z) m (ok_ini1 F rfl ⟨rfl, rfl, rfl, by decide +kernel, rfl, by decide +kernel, by decide +kernel⟩ (Or.inl rfl) (Or.inl rfl) rfl rfl (fun _ => rfl)) (kb_pos F fun _ _ _ _ _ _ us hl => match us, hl with | [_, _], _ => rfl) (kb_kw F fun _ _ _ _ _ _ us ws h1 h2 => match us, ws, h1, h2 with | [_], [_], _, _ => rfl)
theorem cls_9 (E : ErrF K (rowsE.getD 9 baseE)) (m : mg (nm 9) = some (.ref (Ci K 9))) (h : ∃ fd, IniF K 9 fd) : ClN P w K mg base (nm 9) (fl 9) (Ci K 9) := by
  obtain ⟨fd, F⟩ := h
  exact cln_of E (fun z => nomatch z) m (ok_ini1 F rfl ⟨rfl, rfl, rfl, by decide +kernel, rfl, by decide +kernel, by decide +kernel⟩ (Or.inl rfl) (Or.inl rfl) rfl rfl (fun _ => rfl)) (kb_pos F fun _ _ _ _ _ _ us hl => match us, hl with | [_, _], _ => rfl) (kb_kw F fun _ _ _ _ _ _ us ws h1 h2 => match us, ws, h1, h2 with | [_], [_], _, _ => rfl)
theorem cls_10 (E : ErrF K (rowsE.getD 10 baseE)) (m : mg (nm 10) = some (.ref (Ci K 10))) (h : ∃ fd, IniF K 10 fd) : ClN P w K mg base (nm 10) (fl 10) (Ci K 10) := by
  obtain ⟨fd, F⟩ := h
  exact cln_of E (fun z => nomatch z) m (ok_ini1 F rfl ⟨rfl, rfl, rfl, by decide +kernel, rfl, by decide +kernel, by decide +kernel⟩ (Or.inl rfl) (Or.inl rfl) rfl rfl (fun _ => rfl)) (kb_pos F fun _ _ _ _ _ _ us hl => match us, hl with | [_, _], _ => rfl) (kb_kw F fun _ _ _ _ _ _ us ws h1 h2 => match us, ws, h1, h2 with | [_], [_], _, _ => rfl)
theorem cls_11 (E : ErrF K (rowsE.getD 11 baseE)) (m : mg (nm 11) = some (.ref (Ci K 11))) (h : ∃ fd, IniF K 11 fd) : ClN P w K mg base (nm 11) (fl 11) (Ci K 11) := by
  obtain ⟨fd, F⟩ := h
  exact cln_of E (fun z => nomatch z) m (ok_ini1 F rfl ⟨rfl, rfl, rfl, by decide +kernel, rfl, by decide +kernel, by decide +kernel⟩ (Or.inl rfl) (Or.inl rfl) rfl rfl (fun _ => rfl)) (kb_pos F fun _ _ _ _ _ _ us hl => match us, hl with | [_, _], _ => rfl) (kb_kw F fun _ _ _ _ _ _ us ws h1 h2 => match us, ws, h1, h2 with | [_], [_], _, _ => rfl)
theorem cls_12 (E : ErrF K (rowsE.getD 12 baseE)) (m : mg (nm 12) = some (.ref (Ci K 12))) (h : ∃ fd, IniF K 12 fd) : ClN P w K mg base (nm 12) (fl 12) (Ci K 12) := by
  obtain ⟨fd, F⟩ := h
  exact cln_of E (fun z => nomatch z) m (ok_ini1 F rfl ⟨rfl, rfl, rfl, by decide +kernel, rfl, by decide +kernel, by decide +kernel⟩ (Or.inl rfl) (Or.inl rfl) rfl rfl (fun _ => rfl)) (kb_pos F fun _ _ _ _ _ _ us hl => match us, hl with | [_, _], _ => rfl) (kb_kw F fun _ _ _ _ _ _ us ws h1 h2 => match us, ws, h1, h2 with | [_], [_], _, _ => rfl)
theorem cls_13 (E : ErrF K (rowsE.getD 13 baseE)) (m : mg (nm 13) = some (.ref (Ci K 13))) (h : ∃ fd, IniF K 13 fd) : ClN P w K mg base (nm 13) (fl 13) (Ci K 13) := by
  obtain ⟨fd, F⟩ := h
  exact cln_of E (fun z => nomatch z) m (ok_ini1 F rfl ⟨rfl, rfl, rfl, by decide +kernel, rfl, by decide +kernel, by decide +kernel⟩ (Or.inl rfl) (Or.inl rfl) rfl rfl (fun _ => rfl)) (kb_pos F fun _ _ _ _ _ _ us hl => match us, hl with | [_, _], _ => rfl) (kb_kw F fun _ _ _ _ _ _ us ws h1 h2 => match us, ws, h1, h2 with | [_], [_], _, _ => rfl)
theorem cls_14 (E : ErrF K (rowsE.getD 14 baseE)) (m : mg (nm 14) = some (.ref (Ci K 14))) (h : ∃ fd, IniF K 14 fd) : ClN P w K mg base (nm 14) (fl 14) (Ci K 14) := by
  obtain ⟨fd, F⟩ := h
  exact cln_of E (fun z => nomatch z) m (ok_ini1 F rfl ⟨rfl, rfl, rfl, by decide +kernel, rfl, by decide +kernel, by decide +kernel⟩ (Or.inl rfl) (Or.inl rfl) rfl rfl (fun _ => rfl)) (kb_pos F fun _ _ _ _ _ _ us hl => match us, hl with | [_, _], _ => rfl) (kb_kw F fun _ _ _ _ _ _ us ws h1 h2 => match us, ws, h1, h2 with | [_], [_], _, _ => rfl)
theorem cls_15 (E : ErrF K (rowsE.getD 15 baseE)) (m : mg (nm 15) = some (.ref (Ci K 15))) (h : ∃ fd, IniF K 15 fd) : ClN P w K mg base (nm 15) (fl 15) (Ci K 15) := by
  obtain ⟨fd, F⟩ := h
  exact cln_of E (fun z => nomatch z) m (ok_ini1 F rfl ⟨rfl, rfl, rfl, by decide +kernel, rfl, by decide +kernel, by decide +kernel⟩ (Or.inl rfl) (Or.inl rfl) rfl rfl (fun _ => rfl)) (kb_pos F fun _ _ _ _ _ _ us hl => match us, hl with | [_, _], _ => rfl) (kb_kw F fun _ _ _ _ _ _ us ws h1 h2 => match us, ws, h1, h2 with | [_], [_], _, _ => rfl)
theorem cls_16 (E : ErrF K (rowsE.getD 16 baseE)) (m : mg (nm 16) = some (.ref (Ci K 16))) (h : ∃ fd, IniF K 16 fd) : ClN P w K mg base (nm 16) (fl 16) (Ci K 16) := by
  obtain ⟨fd, F⟩ := h
  exact cln_of E (fun z => nomatch z) m (ok_ini1 F rfl ⟨rfl, rfl, rfl, by decide +kernel, rfl, by decide +kernel, by decide +kernel⟩ (Or.inl rfl) (Or.inl rfl) rfl rfl (fun _ => rfl)) (kb_pos F fun _ _ _ _ _ _ us hl => match us, hl with | [_, _], _ => rfl) (kb_kw F fun _ _ _ _ _ _ us ws h1 h2 => match us, ws, h1, h2 with | [_], [_], _, _ => rfl)
theorem cls_17 (E : ErrF K (rowsE.getD 17 baseE)) (m : mg (nm 17) = some (.ref (Ci K 17))) (h : ∃ fd, IniF K 17 fd) : ClN P w K mg base (nm 17) (fl 17) (Ci K 17) := by
  obtain ⟨fd, F⟩ := h
  exact cln_of E (fun z => nomatch z) m (ok_ini1 F rfl ⟨rfl, rfl, rfl, by decide +kernel, rfl, by decide +kernel, by decide +kernel⟩ (Or.inl rfl) (Or.inl rfl) rfl rfl (fun _ => rfl)) (kb_pos F fun _ _ _ _ _ _ us hl => match us, hl with | [_, _], _ => rfl) (kb_kw F fun _ _ _ _ _ _ us ws h1 h2 => match us, ws, h1, h2 with | [_], [_], _, _ => rfl)
theorem cls_18 (E : ErrF K (rowsE.getD 18 baseE)) (m : mg (nm 18) = some (.ref (Ci K 18))) (h : ∃ fd, IniF K 18 fd) : ClN P w K mg base (nm 18) (fl 18) (Ci K 18) := by
  obtain ⟨fd, F⟩ := h
  exact cln_of E (fun z => nomatch z) m (ok_ini1 F rfl ⟨rfl, rfl, rfl, by decide +kernel, rfl, by decide +kernel, by decide +kernel⟩ (Or.inl rfl) (Or.inl rfl) rfl rfl (fun _ => rfl)) (kb_pos F fun _ _ _ _ _ _ us hl => match us, hl with | [_, _], _ => rfl) (kb_kw F fun _ _ _ _ _ _ us ws h1 h2 => match us, ws, h1, h2 with | [_], [_], _, _ => rfl)
theorem cls_19 (E : ErrF K (rowsE.getD 19 baseE)) (m : mg (nm 19) = some (.ref (Ci K 19))) (h : ∃ fd, IniF K 19 fd) : ClN P w K mg base (nm 19) (fl 19) (Ci K 19) := by
  obtain ⟨fd, F⟩ := h
  exact cln_of E (fun z => nomatch z) m (ok_ini1 F rfl ⟨rfl, rfl, rfl, by decide +kernel, rfl, by decide +kernel, by decide +kernel⟩ (Or.inl rfl) (Or.inl rfl) rfl rfl (fun _ => rfl)) (kb_pos F fun _ _ _ _ _ _ us hl => match us, hl with | [_, _], _ => rfl) (kb_kw F fun _ _ _ _ _ _ us ws h1 h2 => match us, ws, h1, h2 with | [_], [_], _, _ => rfl)
theorem cls_20 (E : ErrF K (rowsE.getD 20 baseE)) (m : mg (nm 20) = some (.ref (Ci K 20))) (h : ∃ fd, IniF K 20 fd) : ClN P w K mg base (nm 20) (fl 20) (Ci K 20) := by
  obtain ⟨fd, F⟩ := h
  exact cln_of E (fun z => nomatch z) m (ok_ini1 F rfl ⟨rfl, rfl, rfl, by decide +kernel, rfl, by decide +kernel, by decide +kernel⟩ (Or.inl rfl) (Or.inl rfl) rfl rfl (fun _ => rfl)) (kb_pos F fun _ _ _ _ _ _ us hl => match us, hl with | [_, _], _ => rfl) (kb_kw F fun _ _ _ _ _ _ us ws h1 h2 => match us, ws, h1, h2 with | [_], [_], _, _ => rfl)
theorem cls_21 (E : ErrF K (rowsE.getD 21 baseE)) (m : mg (nm 21) = some (.ref (Ci K 21))) (h : ∃ fd, IniF K 21 fd) : ClN P w K mg base (nm 21) (fl 21) (Ci K 21) := by
  obtain ⟨fd, F⟩ := h
  exact cln_of E (fun z => nomatch z) m (ok_ini1 F rfl ⟨rfl, rfl, rfl, by decide +kernel, rfl, by decide +kernel, by decide +kernel⟩ (Or.inl rfl) (Or.inl rfl) rfl rfl (fun _ => rfl)) (kb_pos F fun _ _ _ _ _ _ us hl => match us, hl with | [_, _], _ => rfl) (kb_kw F fun _ _ _ _ _ _ us ws h1 h2 => match us, ws, h1, h2 with | [_], [_], _, _ => rfl)
theorem cls_22 (E : ErrF K (rowsE.getD 22 baseE)) (m : mg (nm 22) = some (.ref (Ci K 22))) (h : ∃ fd, IniF K 22 fd) : ClN P w K mg base (nm 22) (fl 22) (Ci K 22) := by
  obtain ⟨fd, F⟩ := h
  exact cln_of E (fun z => nomatch z) m (ok_ini1 F rfl ⟨rfl, rfl, rfl, by decide +kernel, rfl, by decide +kernel, by decide +kernel⟩ (Or.inl rfl) (Or.inl rfl) rfl rfl (fun _ => rfl)) (kb_pos F fun _ _ _ _ _ _ us hl => match us, hl with | [_, _], _ => rfl) (kb_kw F fun _ _ _ _ _ _ us ws h1 h2 => match us, ws, h1, h2 with | [_], [_], _, _ => rfl)
theorem cls_23 (E : ErrF K (rowsE.getD 23 baseE)) (m : mg (nm 23) = some (.ref (Ci K 23))) (h : ∃ fd, IniF K 23 fd) : ClN P w K mg base (nm 23) (fl 23) (Ci K 23) := by
  obtain ⟨fd, F⟩ := h
  exact cln_of E (fun z => nomatch z) m (ok_ini1 F rfl ⟨rfl, rfl, rfl, by decide +kernel, rfl, by decide +kernel, by decide +kernel⟩ (Or.inl rfl) (Or.inl rfl) rfl rfl (fun _ => rfl)) (kb_pos F fun _ _ _ _ _ _ us hl => match us, hl with | [_, _], _ => rfl) (kb_kw F fun _ _ _ _ _ _ us ws h1 h2 => match us, ws, h1, h2 with | [_], [_], _, _ => rfl)
theorem cls_24 (E : ErrF K (rowsE.getD 24 baseE)) (m : mg (nm 24) = some (.ref (Ci K 24))) (h : ∃ fd, IniF K 24 fd) : ClN P w K mg base (nm 24) (fl 24) (Ci K 24) := by
  obtain ⟨fd, F⟩ := h
  exact cln_of E (fun z => nomatch z) m (ok_ini1 F rfl ⟨rfl, rfl, rfl, by decide +kernel, rfl, by decide +kernel, by decide +kernel⟩ (Or.inl rfl) (Or.inl rfl) rfl rfl (fun _ => rfl)) (kb_pos F fun _ _ _ _ _ _ us hl => match us, hl with | [_, _], _ => rfl) (kb_kw F fun _ _ _ _ _ _ us ws h1 h2 => match us, ws, h1, h2 with | [_], [_], _, _ => rfl)
theorem cls_25 (E : ErrF K (rowsE.getD 25 baseE)) (m : mg (nm 25) = some (.ref (Ci K 25))) (h : ∃ fd, IniF K 25 fd) : ClN P w K mg base (nm 25) (fl 25) (Ci K 25) := by
  obtain ⟨fd, F⟩ := h
  exact cln_of E (fun z => nomatch z) m (ok_ini1 F rfl ⟨rfl, rfl, rfl, by decide +kernel, rfl, by decide +kernel, by decide +kernel⟩ (Or.inl rfl) (Or.inl rfl) rfl rfl (fun _ => rfl)) (kb_pos F fun _ _ _ _ _ _ us hl => match us, hl with | [_, _], _ => rfl) (kb_kw F fun _ _ _ _ _ _ us ws h1 h2 => match us, ws, h1, h2 with | [_], [_], _, _ => rfl)
theorem cls_26 (E : ErrF K (rowsE.getD 26 baseE)) (m : mg (nm 26) = some (.ref (Ci K 26))) (h : ∃ fd, IniF K 26 fd) : ClN P w K mg base (nm 26) (fl 26) (Ci K 26) := by
  obtain ⟨fd, F⟩ := h
  exact cln_of E (fun z => nomatch z) m (ok_ini1 F rfl ⟨rfl, rfl, rfl, by decide +kernel, rfl, by decide +kernel, by decide +kernel⟩ (Or.inl rfl) (Or.inl rfl) rfl rfl (fun _ => rfl)) (kb_pos F fun _ _ _ _ _ _ us hl => match us, hl with | [_, _], _ => rfl) (kb_kw F fun _ _ _ _ _ _ us ws h1 h2 => match us, ws, h1, h2 with | [_], [_], _, _ => rfl)
theorem cls_27 (E : ErrF K (rowsE.getD 27 baseE)) (m : mg (nm 27) = some (.ref (Ci K 27))) (h : ∃ fd, IniF K 27 fd) : ClN P w K mg base (nm 27) (fl 27) (Ci K 27) := by
  obtain ⟨fd, F⟩ := h
  exact cln_of E (fun z => nomatch z) m (ok_ini1 F rfl ⟨rfl, rfl, rfl, by decide +kernel, rfl, by decide +kernel, by decide +kernel⟩ (Or.inl rfl) (Or.inl rfl) rfl rfl (fun _ => rfl)) (kb_pos F fun _ _ _ _ _ _ us hl => match us, hl with | [_, _], _ => rfl) (kb_kw F fun _ _ _ _ _ _ us ws h1 h2 => match us, ws, h1, h2 with | [_], [_], _, _ => rfl)
theorem cls_28 (E : ErrF K (rowsE.getD 28 baseE)) (m : mg (nm 28) = some (.ref (Ci K 28))) (h : ∃ fd, IniF K 28 fd) : ClN P w K mg base (nm 28) (fl 28) (Ci K 28) := by
  obtain ⟨fd, F⟩ := h
  exact cln_of E (fun z => nomatch z) m (ok_ini1 F rfl ⟨rfl, rfl, rfl, by decide +kernel, rfl, by decide +kernel, by decide +kernel⟩ (Or.inl rfl) (Or.inl rfl) rfl rfl (fun _ => rfl)) (kb_pos F fun _ _ _ _ _ _ us hl => match us, hl with | [_, _], _ => rfl) (kb_kw F fun _ _ _ _ _ _ us ws h1 h2 => match us, ws, h1, h2 with | [_], [_], _, _ => rfl)
theorem cls_29 (E : ErrF K (rowsE.getD 29 baseE)) (m : mg (nm 29) = some (.ref (Ci K 29))) (h : ∃ fd, IniF K 29 fd) : ClN P w K mg base (nm 29) (fl 29) (Ci K 29) := by
  obtain ⟨fd, F⟩ := h
  exact cln_of E (fun z => nomatch z) m (ok_ini1 F rfl ⟨rfl, rfl, rfl, by decide +kernel, rfl, by decide +kernel, by decide +kernel⟩ (Or.inl rfl) (Or.inl rfl) rfl rfl (fun _ => rfl)) (kb_pos F fun _ _ _ _ _ _ us hl => match us, hl with | [_, _], _ => rfl) (kb_kw F fun _ _ _ _ _ _ us ws h1 h2 => match us, ws, h1, h2 with | [_], [_], _, _ => rfl)
theorem cls_30 (E : ErrF K (rowsE.getD 30 baseE)) (m : mg (nm 30) = some (.ref (Ci K 30))) (h : ∃ fd, IniF K 30 fd) : ClN P w K mg base (nm 30) (fl 30) (Ci K 30) := by
  obtain ⟨fd, F⟩ := h
  exact cln_of E (fun z => nomatch z) m (ok_ini3 F rfl ⟨rfl, rfl, rfl, by decide +kernel, rfl, by decide +kernel, by decide +kernel⟩ (Or.inl rfl) (Or.inl rfl) (Or.inl rfl) (Or.inl rfl) rfl rfl rfl rfl rfl rfl (fun _ => rfl) (fun _ => rfl) (fun _ => rfl)) (kb_pos F fun _ _ _ _ _ _ us hl => match us, hl with | [_, _, _, _], _ => rfl) (kb_kw F fun _ _ _ _ _ _ us ws h1 h2 => match us, ws, h1, h2 with | [_], [_, _, _], _, _ => rfl)
theorem cls_31 (E : ErrF K (rowsE.getD 31 baseE)) (m : mg (nm 31) = some (.ref (Ci K 31))) (h : ∃ fd, IniF K 31 fd) : ClN P w K mg base (nm 31) (fl 31) (Ci K 31) := by
  obtain ⟨fd, F⟩ := h
  exact cln_of E (fun z => nomatch z) m (ok_ini1 F rfl ⟨rfl, rfl, rfl, by decide +kernel, rfl, by decide +kernel, by decide +kernel⟩ (Or.inl rfl) (Or.inl rfl) rfl rfl (fun _ => rfl)) (kb_pos F fun _ _ _ _ _ _ us hl => match us, hl with | [_, _], _ => rfl) (kb_kw F fun _ _ _ _ _ _ us ws h1 h2 => match us, ws, h1, h2 with | [_], [_], _, _ => rfl)
theorem cls_33 (E : ErrF K (rowsE.getD 33 baseE)) (m : mg (nm 33) = some (.ref (Ci K 33))) (h : ∃ fd, IniF K 33 fd) : ClN P w K mg base (nm 33) (fl 33) (Ci K 33) := by
  obtain ⟨fd, F⟩ := h
  exact cln_of E (fun z => nomatch z) m (ok_ini1 F rfl ⟨rfl, rfl, rfl, by decide +kernel, rfl, by decide +kernel, by decide +kernel⟩ (Or.inl rfl) (Or.inl rfl) rfl rfl (fun _ => rfl)) (kb_pos F fun _ _ _ _ _ _ us hl => match us, hl with | [_, _], _ => rfl) (kb_kw F fun _ _ _ _ _ _ us ws h1 h2 => match us, ws, h1, h2 with | [_], [_], _, _ => rfl)
theorem cls_34 (E : ErrF K (rowsE.getD 34 baseE)) (m : mg (nm 34) = some (.ref (Ci K 34))) (h : ∃ fd, IniF K 34 fd) : ClN P w K mg base (nm 34) (fl 34) (Ci K 34) := by
  obtain ⟨fd, F⟩ := h
  exact cln_of E (fun z => nomatch z) m (ok_ini1 F rfl ⟨rfl, rfl, rfl, by decide +kernel, rfl, by decide +kernel, by decide +kernel⟩ (Or.inl rfl) (Or.inl rfl) rfl rfl (fun _ => rfl)) (kb_pos F fun _ _ _ _ _ _ us hl => match us, hl with | [_, _], _ => rfl) (kb_kw F fun _ _ _ _ _ _ us ws h1 h2 => match us, ws, h1, h2 with | [_], [_], _, _ => rfl)
theorem cls_35 (E : ErrF K (rowsE.getD 35 baseE)) (m : mg (nm 35) = some (.ref (Ci K 35))) (h : ∃ fd, IniF K 35 fd) : ClN P w K mg base (nm 35) (fl 35) (Ci K 35) := by
  obtain ⟨fd, F⟩ := h
  exact cln_of E (fun z => nomatch z) m (ok_ini2 F rfl ⟨rfl, rfl, rfl, by decide +kernel, rfl, by decide +kernel, by decide +kernel⟩ (Or.inl rfl) (Or.inl rfl) (Or.inl rfl) rfl rfl rfl rfl (fun _ => rfl) (fun _ => rfl)) (kb_pos F fun _ _ _ _ _ _ us hl => match us, hl with | [_, _, _], _ => rfl) (kb_kw F fun _ _ _ _ _ _ us ws h1 h2 => match us, ws, h1, h2 with | [_], [_, _], _, _ => rfl)
theorem cls_39 (E : ErrF K (rowsE.getD 39 baseE)) (m : mg (nm 39) = some (.ref (Ci K 39))) (h : ∃ fd, IniF K 39 fd) : ClN P w K mg base (nm 39) (fl 39) (Ci K 39) := by
  obtain ⟨fd, F⟩ := h
  exact cln_of E (fun z => nomatch z) m (ok_ini1 F rfl ⟨rfl, rfl, rfl, by decide +kernel, rfl, by decide +kernel, by decide +kernel⟩ (Or.inl rfl) (Or.inl rfl) rfl rfl (fun _ => rfl)) (kb_pos F fun _ _ _ _ _ _ us hl => match us, hl with | [_, _], _ => rfl) (kb_kw F fun _ _ _ _ _ _ us ws h1 h2 => match us, ws, h1, h2 with | [_], [_], _, _ => rfl)
theorem cls_41 (E : ErrF K (rowsE.getD 41 baseE)) (m : mg (nm 41) = some (.ref (Ci K 41))) (h : ∃ fd, IniF K 41 fd) : ClN P w K mg base (nm 41) (fl 41) (Ci K 41) := by
  obtain ⟨fd, F⟩ := h
  exact cln_of E (fun z => nomatch z) m (ok_ini1 F rfl ⟨rfl, rfl, rfl, by decide +kernel, rfl, by decide +kernel, by decide +kernel⟩ (Or.inl rfl) (Or.inl rfl) rfl rfl (fun _ => rfl)) (kb_pos F fun _ _ _ _ _ _ us hl => match us, hl with | [_, _], _ => rfl) (kb_kw F fun _ _ _ _ _ _ us ws h1 h2 => match us, ws, h1, h2 with | [_], [_], _, _ => rfl)
theorem cls_42 (E : ErrF K (rowsE.getD 42 baseE)) (m : mg (nm 42) = some (.ref (Ci K 42))) (h : ∃ fd, IniF K 42 fd) : ClN P w K mg base (nm 42) (fl 42) (Ci K 42) := by
  obtain ⟨fd, F⟩ := h
  exact cln_of E (fun z => nomatch z) m (ok_ini1 F rfl ⟨rfl, rfl, rfl, by decide +kernel, rfl, by decide +kernel, by decide +kernel⟩ (Or.inl rfl) (Or.inl rfl) rfl rfl (fun _ => rfl)) (kb_pos F fun _ _ _ _ _ _ us hl => match us, hl with | [_, _], _ => rfl) (kb_kw F fun _ _ _ _ _ _ us ws h1 h2 => match us, ws, h1, h2 with | [_], [_], _, _ => rfl)
theorem cls_44 (E : ErrF K (rowsE.getD 44 baseE)) (m : mg (nm 44) = some (.ref (Ci K 44))) (h : ∃ fd, IniF K 44 fd) : ClN P w K mg base (nm 44) (fl 44) (Ci K 44) := by
  obtain ⟨fd, F⟩ := h
  exact cln_of E (fun z => nomatch z) m (ok_ini1 F rfl ⟨rfl, rfl, rfl, by decide +kernel, rfl, by decide +kernel, by decide +kernel⟩ (Or.inl rfl) (Or.inl rfl) rfl rfl (fun _ => rfl)) (kb_pos F fun _ _ _ _ _ _ us hl => match us, hl with | [_, _], _ => rfl) (kb_kw F fun _ _ _ _ _ _ us ws h1 h2 => match us, ws, h1, h2 with | [_], [_], _, _ => rfl)
theorem cls_45 (E : ErrF K (rowsE.getD 45 baseE)) (m : mg (nm 45) = some (.ref (Ci K 45))) (h : ∃ fd, IniF K 45 fd) : ClN P w K mg base (nm 45) (fl 45) (Ci K 45) := by
  obtain ⟨fd, F⟩ := h
  exact cln_of E (fun z => nomatch z) m (ok_ini1 F rfl ⟨rfl, rfl, rfl, by decide +kernel, rfl, by decide +kernel, by decide +kernel⟩ (Or.inl rfl) (Or.inl rfl) rfl rfl (fun _ => rfl)) (kb_pos F fun _ _ _ _ _ _ us hl => match us, hl with | [_, _], _ => rfl) (kb_kw F fun _ _ _ _ _ _ us ws h1 h2 => match us, ws, h1, h2 with | [_], [_], _, _ => rfl)
theorem cls_48 (E : ErrF K (rowsE.getD 48 baseE)) (m : mg (nm 48) = some (.ref (Ci K 48))) (h : ∃ fd, IniF K 48 fd) : ClN P w K mg base (nm 48) (fl 48) (Ci K 48) := by
  obtain ⟨fd, F⟩ := h
  exact cln_of E (fun z => nomatch z) m (ok_ini1 F rfl ⟨rfl, rfl, rfl, by decide +kernel, rfl, by decide +kernel, by decide +kernel⟩ (Or.inl rfl) (Or.inl rfl) rfl rfl (fun _ => rfl)) (kb_pos F fun _ _ _ _ _ _ us hl => match us, hl with | [_, _], _ => rfl) (kb_kw F fun _ _ _ _ _ _ us ws h1 h2 => match us, ws, h1, h2 with | [_], [_], _, _ => rfl)
theorem cls_49 (E : ErrF K (rowsE.getD 49 baseE)) (m : mg (nm 49) = some (.ref (Ci K 49))) (h : ∃ fd, IniF K 49 fd) : ClN P w K mg base (nm 49) (fl 49) (Ci K 49) := by
  obtain ⟨fd, F⟩ := h
  exact cln_of E (fun z => nomatch z) m (ok_ini1 F rfl ⟨rfl, rfl, rfl, by decide +kernel, rfl, by decide +kernel, by decide +kernel⟩ (Or.inl rfl) (Or.inl rfl) rfl rfl (fun _ => rfl)) (kb_pos F fun _ _ _ _ _ _ us hl => match us, hl with | [_, _], _ => rfl) (kb_kw F fun _ _ _ _ _ _ us ws h1 h2 => match us, ws, h1, h2 with | [_], [_], _, _ => rfl)
theorem cls_50 (E : ErrF K (rowsE.getD 50 baseE)) (m : mg (nm 50) = some (.ref (Ci K 50))) (h : ∃ fd, IniF K 50 fd) : ClN P w K mg base (nm 50) (fl 50) (Ci K 50) := by
  obtain ⟨fd, F⟩ := h
  exact cln_of E (fun z => nomatch z) m (ok_ini1 F rfl ⟨rfl, rfl, rfl, by decide +kernel, rfl, by decide +kernel, by decide +kernel⟩ (Or.inl rfl) (Or.inl rfl) rfl rfl (fun _ => rfl)) (kb_pos F fun _ _ _ _ _ _ us hl => match us, hl with | [_, _], _ => rfl) (kb_kw F fun _ _ _ _ _ _ us ws h1 h2 => match us, ws, h1, h2 with | [_], [_], _, _ => rfl)
theorem cls_51 (E : ErrF K (rowsE.getD 51 baseE)) (m : mg (nm 51) = some (.ref (Ci K 51))) (h : ∃ fd, IniF K 51 fd) : ClN P w K mg base (nm 51) (fl 51) (Ci K 51) := by
  obtain ⟨fd, F⟩ := h
  exact cln_of E (fun z => nomatch z) m (ok_ini1 F rfl ⟨rfl, rfl, rfl, by decide +kernel, rfl, by decide +kernel, by decide +kernel⟩ (Or.inl rfl) (Or.inl rfl) rfl rfl (fun _ => rfl)) (kb_pos F fun _ _ _ _ _ _ us hl => match us, hl with | [_, _], _ => rfl) (kb_kw F fun _ _ _ _ _ _ us ws h1 h2 => match us, ws, h1, h2 with | [_], [_], _, _ => rfl)
theorem clsAll (Z : Facts K) (m : ∀ i, i < 52 → mg (nm i) = some (.ref (Ci K i))) (h : ∀ i ∈ inits, ∃ fd, IniF K i fd) : ClsAll P w K mg base := by
  intro i hi
  match i, hi with
  | 0, _ => exact ⟨fun _ => cls_0 (Z.row 0 (by decide)) (m 0 (by decide)) (h 0 (by decide)), fun z => nomatch z⟩
  | 1, _ => exact ⟨fun _ => cls_1 (Z.row 1 (by decide)) (m 1 (by decide)) (h 1 (by decide)), fun z => nomatch z⟩
  | 2, _ => exact ⟨fun _ => cls_2 (Z.row 2 (by decide)) (m 2 (by decide)) (h 2 (by decide)), fun z => nomatch z⟩
  | 3, _ => exact ⟨fun _ => cls_3 (Z.row 3 (by decide)) (m 3 (by decide)) (h 3 (by decide)), fun z => nomatch z⟩
  | 4, _ => exact ⟨fun _ => cls_4 (Z.row 4 (by decide)) (m 4 (by decide)) (h 4 (by decide)), fun z => nomatch z⟩
  | 5, _ => exact ⟨fun _ => cls_5 (Z.row 5 (by decide)) (m 5 (by decide)) (h 5 (by decide)), fun z => nomatch z⟩
  | 6, _ => exact ⟨fun _ => cls_6 (Z.row 6 (by decide)) (m 6 (by decide)) (h 6 (by decide)), fun z => nomatch z⟩
  | 7, _ => exact ⟨fun _ => cls_7 (Z.row 7 (by decide)) (m 7 (by decide)) (h 7 (by decide)), fun z => nomatch z⟩
  | 8, _ => exact ⟨fun _ => cls_8 (Z.row 8 (by decide)) (m 8 (by decide)) (h 8 (by decide)), fun z => nomatch z⟩
  | 9, _ => exact ⟨fun _ => cls_9 (Z.row 9 (by decide)) (m 9 (by decide)) (h 9 (by decide)), fun z => nomatch z⟩
  | 10, _ => exact ⟨fun _ => cls_10 (Z.row 10 (by decide)) (m 10 (by decide)) (h 10 (by decide)), fun z => nomatch z⟩
  | 11, _ => exact ⟨fun _ => cls_11 (Z.row 11 (by decide)) (m 11 (by decide)) (h 11 (by decide)), fun z => nomatch z⟩
  | 12, _ => exact ⟨fun _ => cls_12 (Z.row 12 (by decide)) (m 12 (by decide)) (h 12 (by decide)), fun z => nomatch z⟩
  | 13, _ => exact ⟨fun _ => cls_13 (Z.row 13 (by decide)) (m 13 (by decide)) (h 13 (by decide)), fun z => nomatch z⟩
  | 14, _ => exact ⟨fun _ => cls_14 (Z.row 14 (by decide)) (m 14 (by decide)) (h 14 (by decide)), fun z => nomatch z⟩
  | 15, _ => exact ⟨fun _ => cls_15 (Z.row 15 (by decide)) (m 15 (by decide)) (h 15 (by decide)), fun z => nomatch z⟩
  | 16, _ => exact ⟨fun _ => cls_16 (Z.row 16 (by decide)) (m 16 (by decide)) (h 16 (by decide)), fun z => nomatch z⟩
  | 17, _ => exact ⟨fun _ => cls_17 (Z.row 17 (by decide)) (m 17 (by decide)) (h 17 (by decide)), fun z => nomatch z⟩
  | 18, _ => exact ⟨fun _ => cls_18 (Z.row 18 (by decide)) (m 18 (by decide)) (h 18 (by decide)), fun z => nomatch z⟩
  | 19, _ => exact ⟨fun _ => cls_19 (Z.row 19 (by decide)) (m 19 (by decide)) (h 19 (by decide)), fun z => nomatch z⟩
  | 20, _ => exact ⟨fun _ => cls_20 (Z.row 20 (by decide)) (m 20 (by decide)) (h 20 (by decide)), fun z => nomatch z⟩
  | 21, _ => exact ⟨fun _ => cls_21 (Z.row 21 (by decide)) (m 21 (by decide)) (h 21 (by decide)), fun z => nomatch z⟩
  | 22, _ => exact ⟨fun _ => cls_22 (Z.row 22 (by decide)) (m 22 (by decide)) (h 22 (by decide)), fun z => nomatch z⟩
  | 23, _ => exact ⟨fun _ => cls_23 (Z.row 23 (by decide)) (m 23 (by decide)) (h 23 (by decide)), fun z => nomatch z⟩
  | 24, _ => exact ⟨fun _ => cls_24 (Z.row 24 (by decide)) (m 24 (by decide)) (h 24 (by decide)), fun z => nomatch z⟩
  | 25, _ => exact ⟨fun _ => cls_25 (Z.row 25 (by decide)) (m 25 (by decide)) (h 25 (by decide)), fun z => nomatch z⟩
  | 26, _ => exact ⟨fun _ => cls_26 (Z.row 26 (by decide)) (m 26 (by decide)) (h 26 (by decide)), fun z => nomatch z⟩
  | 27, _ => exact ⟨fun _ => cls_27 (Z.row 27 (by decide)) (m 27 (by decide)) (h 27 (by decide)), fun z => nomatch z⟩
  | 28, _ => exact ⟨fun _ => cls_28 (Z.row 28 (by decide)) (m 28 (by decide)) (h 28 (by decide)), fun z => nomatch z⟩
  | 29, _ => exact ⟨fun _ => cls_29 (Z.row 29 (by decide)) (m 29 (by decide)) (h 29 (by decide)), fun z => nomatch z⟩
  | 30, _ => exact ⟨fun _ => cls_30 (Z.row 30 (by decide)) (m 30 (by decide)) (h 30 (by decide)), fun z => nomatch z⟩
  | 31, _ => exact ⟨fun _ => cls_31 (Z.row 31 (by decide)) (m 31 (by decide)) (h 31 (by decide)), fun z => nomatch z⟩
  | 32, _ => exact ⟨fun z => absurd rfl z, fun _ => ⟨(Z.row 32 (by decide)).T, m 32 (by decide), (Z.row 32 (by decide)).i0 rfl⟩⟩
  | 33, _ => exact ⟨fun _ => cls_33 (Z.row 33 (by decide)) (m 33 (by decide)) (h 33 (by decide)), fun z => nomatch z⟩
  | 34, _ => exact ⟨fun _ => cls_34 (Z.row 34 (by decide)) (m 34 (by decide)) (h 34 (by decide)), fun z => nomatch z⟩
  | 35, _ => exact ⟨fun _ => cls_35 (Z.row 35 (by decide)) (m 35 (by decide)) (h 35 (by decide)), fun z => nomatch z⟩
  | 36, _ => exact ⟨fun z => absurd rfl z, fun _ => ⟨(Z.row 36 (by decide)).T, m 36 (by decide), (Z.row 36 (by decide)).i0 rfl⟩⟩
  | 37, _ => exact ⟨fun z => absurd rfl z, fun _ => ⟨(Z.row 37 (by decide)).T, m 37 (by decide), (Z.row 37 (by decide)).i0 rfl⟩⟩
  | 38, _ => exact ⟨fun z => absurd rfl z, fun _ => ⟨(Z.row 38 (by decide)).T, m 38 (by decide), (Z.row 38 (by decide)).i0 rfl⟩⟩
  | 39, _ => exact ⟨fun _ => cls_39 (Z.row 39 (by decide)) (m 39 (by decide)) (h 39 (by decide)), fun z => nomatch z⟩
  | 40, _ => exact ⟨fun z => absurd rfl z, fun _ => ⟨(Z.row 40 (by decide)).T, m 40 (by decide), (Z.row 40 (by decide)).i0 rfl⟩⟩
  | 41, _ => exact ⟨fun _ => cls_41 (Z.row 41 (by decide)) (m 41 (by decide)) (h 41 (by decide)), fun z => nomatch z⟩
  | 42, _ => exact ⟨fun _ => cls_42 (Z.row 42 (by decide)) (m 42 (by decide)) (h 42 (by decide)), fun z => nomatch z⟩
  | 43, _ => exact ⟨fun z => absurd rfl z, fun _ => ⟨(Z.row 43 (by decide)).T, m 43 (by decide), (Z.row 43 (by decide)).i0 rfl⟩⟩
  | 44, _ => exact ⟨fun _ => cls_44 (Z.row 44 (by decide)) (m 44 (by decide)) (h 44 (by decide)), fun z => nomatch z⟩
  | 45, _ => exact ⟨fun _ => cls_45 (Z.row 45 (by decide)) (m 45 (by decide)) (h 45 (by decide)), fun z => nomatch z⟩
  | 46, _ => exact ⟨fun z => absurd rfl z, fun _ => ⟨(Z.row 46 (by decide)).T, m 46 (by decide), (Z.row 46 (by decide)).i0 rfl⟩⟩
  | 47, _ => exact ⟨fun z => absurd rfl z, fun _ => ⟨(Z.row 47 (by decide)).T, m 47 (by decide), (Z.row 47 (by decide)).i0 rfl⟩⟩
  | 48, _ => exact ⟨fun _ => cls_48 (Z.row 48 (by decide)) (m 48 (by decide)) (h 48 (by decide)), fun z => nomatch z⟩
  | 49, _ => exact ⟨fun _ => cls_49 (Z.row 49 (by decide)) (m 49 (by decide)) (h 49 (by decide)), fun z => nomatch z⟩
  | 50, _ => exact ⟨fun _ => cls_50 (Z.row 50 (by decide)) (m 50 (by decide)) (h 50 (by decide)), fun z => nomatch z⟩
  | 51, _ => exact ⟨fun _ => cls_51 (Z.row 51 (by decide)) (m 51 (by decide)) (h 51 (by decide)), fun z => nomatch z⟩
  | n + 52, hi => omega
end
end TBX

set_option Elab.async false
set_option linter.all false
set_option maxRecDepth 100000
set_option maxHeartbeats 4000000
namespace TBX
open PySem PySem.Spec PyProof.Rows L2 TB LamX NdefX
/-! ### the law's parts -/
theorem room_le {k j : Nat} {A : Around} (h : Room k A) (l : j ≤ k) : Room j A := ⟨h.hd, by have := h.dp; omega, by have := h.un; omega⟩
structure RowP (P : Program) (w : World) (K : PySem.W.Frag) (mg : PySem.Str → Option Value) (base : Heap) (H : Hp) (i : Nat) (vs : List V) (m t f due : Addr) : Prop where
  ex : ∃ (F : NF) (body : Expr) (ms ms2 : List (PySem.Str × V)), ErrAt H m (Ci K i) ms ∧ ErrAt H t (Ci K i) ms2 ∧ (fl i).map (fun x => List.lookup x ms) = vs.map some ∧ (fl i).map (fun x => List.lookup x ms2) = vs.map some ∧ H f = some (LamO f F body) ∧ H F.c = some (CodeO F.c F.qual) ∧ LOk P w K mg base 1 f F body (spLam K (fl i)) ∧ H due = some (.lst vs)
section
variable {P : Program} {w : World} {K : PySem.W.Frag} {mg : PySem.Str → Option Value} {base : Heap} {B : List Addr} {H H' : Hp} {all : List V}
theorem RowAt.parts {i : Nat} {vs : List V} {v : V} (r : RowAt P w K mg base B H i vs v) : ∃ p m t f due, v = .ref p ∧ H p = some (.tup [.ref m, .ref t, .ref f, .ref due]) ∧ RowP P w K mg base H i vs m t f due := by
  obtain ⟨p, m, t, f, due, F, body, ms, ms2, e1, e2, e3, e4, e5, e6, e7, e8, e9, e10, e11⟩ := r.ex
  exact ⟨p, m, t, f, due, e1, e2, ⟨F, body, ms, ms2, e3, e4, e5, e6, e7, e8, e9, e10⟩⟩
theorem RowP.ext {i : Nat} {vs : List V} {m t f due : Addr} (r : RowP P w K mg base H i vs m t f due) (k : Ext H H') : RowP P w K mg base H' i vs m t f due := by
  obtain ⟨F, body, ms, ms2, e3, e4, e5, e6, e7, e8, e9, e10⟩ := r.ex
  exact ⟨F, body, ms, ms2, e3.ext fun b o e _ _ => k b o e, e4.ext fun b o e _ _ => k b o e, e5, e6, k _ _ e7, k _ _ e8, e9, k _ _ e10⟩
theorem RowsAt.get {is : List Nat} {vs : List V} (r : RowsAt P w K mg base B H all is vs) : ∀ (j i : Nat) (v : V), is[j]? = some i → vs[j]? = some v → RowAt P w K mg base B H i (all.take (fl i).length) v := by
  induction r with
  | nil => intro j i v h; simp at h
  | cons h _ ih =>
    intro j i v h1 h2
    cases j with
    | zero =>
      cases h1
      cases h2
      exact h
    | succ j => exact ih j i v h1 h2
end
theorem Ext.trans {H H1 H2 : Hp} (a : Ext H H1) (b : Ext H1 H2) : Ext H H2 := fun c o e => b c o (a c o e)
theorem Ext.new {H : Hp} {p : Addr} {o : HO} (n : H p = none) : Ext H (upd H p o) := fun c u e => by
  rw [upd_ne (ne_of_none e n)]
  exact e
/-- _law_made_a(..) + _law_made_b(..) + _law_made_c(..) -/
def tMade3 (P : Program) (w : World) (K : PySem.W.Frag) (mg : PySem.Str → Option Value) (base : Heap) (i1 i2 i3 : Nat) : TE := fun σ H Q => ∃ (x y z : V) (B : List Addr), σ[i1]? = some (some x) ∧ σ[i2]? = some (some y) ∧ σ[i3]? = some (some z) ∧ Tabs (TT K) H ∧ (∀ b ∈ B, ∃ o, H b = some o ∧ ∀ ps, o ≠ .tbl ps) ∧
  ∀ (D : Addr) (H' : Hp) (us : List V), ExtN H H' → RowsAt P w K mg base B H' [x, y, z] (List.range 52) us → H' D = some (.lst us) → Tabs (TT K) H' → Q (.ref D) H'
section
variable {X : Cx} {fA fB fC : Addr} {fdA fdB fdC : FuncData}
structure Made3 (X : Cx) (fA fB fC : Addr) (fdA fdB fdC : FuncData) : Prop where
  GA : FnOk X.prog X.w X.K X.mg X.base CX0 3 fA fdA ["x", "y", "z"] (spMade X.prog X.w X.K X.mg X.base isA)
  GB : FnOk X.prog X.w X.K X.mg X.base CX0 3 fB fdB ["x", "y", "z"] (spMade X.prog X.w X.K X.mg X.base isB)
  GC : FnOk X.prog X.w X.K X.mg X.base CX0 3 fC fdC ["x", "y", "z"] (spMade X.prog X.w X.K X.mg X.base isC)
  mA : X.mg "_law_made_a" = some (.ref fA)
  mB : X.mg "_law_made_b" = some (.ref fB)
  mC : X.mg "_law_made_c" = some (.ref fC)
  kA : PySem.W.keepIn X.K (.ref fA) = true
  kB : PySem.W.keepIn X.K (.ref fB) = true
  kC : PySem.W.keepIn X.K (.ref fC) = true
  bA : L2.Binds X.K fdA ["x", "y", "z"] []
  bB : L2.Binds X.K fdB ["x", "y", "z"] []
  bC : L2.Binds X.K fdC ["x", "y", "z"] []
theorem pe_made3 {n1 n2 n3 : PySem.Str} {i1 i2 i3 : Nat} {p1 p2 p3 p4 p5 q1 q2 q3 q4 q5 r1 r2 r3 r4 r5 s1 s2 : Pos} (M : Made3 X fA fB fC fdA fdB fdC) (hr : Room 3 X.A) (hx : X.xe = fun _ _ => False) (gA : Gl X "_law_made_a") (gB : Gl X "_law_made_b") (gC : Gl X "_law_made_c")
    (h1 : X.N[i1]? = some n1) (h2 : X.N[i2]? = some n2) (h3 : X.N[i3]? = some n3) (v1 : Vis X.env.scope n1) (v2 : Vis X.env.scope n2) (v3 : Vis X.env.scope n3)
    (d1 : (n1 == ("__debug__" : PySem.Str)) = false) (d2 : (n2 == ("__debug__" : PySem.Str)) = false) (d3 : (n3 == ("__debug__" : PySem.Str)) = false) (c1 : (n1 == ("__classdict__" : PySem.Str)) = false) (c2 : (n2 == ("__classdict__" : PySem.Str)) = false) (c3 : (n3 == ("__classdict__" : PySem.Str)) = false) :
    PE X (.BinOp (.BinOp (.Call (.Name "_law_made_a" p1) [.Name n1 p2, .Name n2 p3, .Name n3 p4] [] p5) .Add (.Call (.Name "_law_made_b" q1) [.Name n1 q2, .Name n2 q3, .Name n3 q4] [] q5) s1) .Add (.Call (.Name "_law_made_c" r1) [.Name n1 r2, .Name n2 r3, .Name n3 r4] [] r5) s2) (tMade3 X.prog X.w X.K X.mg X.base i1 i2 i3) := by
  have D0 := pe_op (pos := s2) op_cat (pe_op (pos := s1) op_cat (pe_call (pos := p5) (p := p1) M.GA hr gA M.mA M.kA M.bA .nil pass0 (pa_cons (pe_var (pos := p2) h1 v1 d1 c1) (pa_cons (pe_var (pos := p3) h2 v2 d2 c2) (pa_cons (pe_var (pos := p4) h3 v3 d3 c3) pa_nil))))
    (pe_call (pos := q5) (p := q1) M.GB hr gB M.mB M.kB M.bB .nil pass0 (pa_cons (pe_var (pos := q2) h1 v1 d1 c1) (pa_cons (pe_var (pos := q3) h2 v2 d2 c2) (pa_cons (pe_var (pos := q4) h3 v3 d3 c3) pa_nil)))))
    (pe_call (pos := r5) (p := r1) M.GC hr gC M.mC M.kC M.bC .nil pass0 (pa_cons (pe_var (pos := r2) h1 v1 d1 c1) (pa_cons (pe_var (pos := r3) h2 v2 d2 c2) (pa_cons (pe_var (pos := r4) h3 v3 d3 c3) pa_nil))))
  refine ⟨fun pins s σ H Q I h => D0.run pins s σ H Q I ?_⟩
  obtain ⟨x, y, z, B, e1, e2, e3, hT, hB, k⟩ := h
  have keepB : ∀ {H1 : Hp}, ExtN H H1 → ∀ b ∈ B, H1 b ≠ none := fun {H1} k1 b hb n => by
    obtain ⟨o, e, nt⟩ := hB b hb
    rw [k1 b o e nt] at n
    cases n
  refine ⟨x, e1, y, e2, z, e3, x, y, z, B, rfl, hT, keepB (ExtN.refl H), fun p1 H1 u1 n1 k1 r1 l1 T1 => ?_⟩
  refine ⟨x, e1, y, e2, z, e3, x, y, z, B, rfl, T1, keepB k1, fun p2 H2 u2 n2 k2 r2 l2 T2 => ?_⟩
  have r1' := r1.extN k2
  refine ⟨p1, p2, _, _, rfl, rfl, k2 _ _ l1 (fun ps z => by cases z), l2, ?_, fun p3 n3 => ?_⟩
  · rw [r1.len, r2.len]
    decide
  have x3 : Ext H2 (upd H2 p3 (.lst (u1 ++ u2))) := Ext.new n3
  refine ⟨x, e1, y, e2, z, e3, x, y, z, B, rfl, T2.ext x3, keepB ((k1.trans k2).trans (ExtN.of x3)), fun p4 H4 u4 n4 k4 r4 l4 T4 => ?_⟩
  have r12 := ((r1'.app r2).extN (ExtN.of x3)).extN k4
  refine ⟨p3, p4, _, _, rfl, rfl, k4 _ _ upd_same (fun ps z => by cases z), l4, ?_, fun p5 n5 => ?_⟩
  · rw [List.length_append, r1.len, r2.len, r4.len]
    decide
  have x5 : Ext H4 (upd H4 p5 (.lst (u1 ++ u2 ++ u4))) := Ext.new n5
  refine k p5 _ (u1 ++ u2 ++ u4) ((((k1.trans k2).trans (ExtN.of x3)).trans k4).trans (ExtN.of x5)) ?_ upd_same (T4.ext x5)
  have := ((r12.app r4).extN (ExtN.of x5))
  rw [← all52]
  exact this
/-- if not _law_are_these(field(mine), due) or not _law_are_these(field(twin), due): return False -/
def tThese (P : Program) (w : World) (K : PySem.W.Frag) (mg : PySem.Str → Option Value) (base : Heap) : TS := fun D σ H => ∃ (i : Nat) (vs : List V) (m t f due : Addr), i < 52 ∧ σ[9]? = some (some (.ref m)) ∧ σ[10]? = some (some (.ref t)) ∧ σ[11]? = some (some (.ref f)) ∧ σ[12]? = some (some (.ref due)) ∧
  RowP P w K mg base H i vs m t f due ∧ Goods H vs ∧ vs.length ≤ 3 ∧ ∀ H', Ext H H' → D.nx σ H'
theorem ps_these {fT : Addr} {fdT : FuncData} {p1 p2 p3 p4 p5 p6 p7 q1 q2 q3 q4 q5 q6 q7 s1 s2 s3 s4 : Pos} (Z : Facts X.K) (GT : FnG X.prog X.w X.K X.mg X.base 1 fT fdT ["found", "due"] spThese) (hG : X.A.guards = some []) (hr : Room 1 X.A) (g : Gl X "_law_are_these") (mT : X.mg "_law_are_these" = some (.ref fT)) (kT : PySem.W.keepIn X.K (.ref fT) = true) (bT : L2.Binds X.K fdT ["found", "due"] [])
    (h9 : X.N[9]? = some ("mine" : PySem.Str)) (h10 : X.N[10]? = some ("twin" : PySem.Str)) (h11 : X.N[11]? = some ("field" : PySem.Str)) (h12 : X.N[12]? = some ("due" : PySem.Str)) (v9 : Vis X.env.scope "mine") (v10 : Vis X.env.scope "twin") (v11 : Vis X.env.scope "field") (v12 : Vis X.env.scope "due") :
    PS X (.If (.BoolOp .Or [.UnaryOp .Not (.Call (.Name "_law_are_these" p1) [.Call (.Name "field" p2) [.Name "mine" p3] [] p4, .Name "due" p5] [] p6) p7, .UnaryOp .Not (.Call (.Name "_law_are_these" q1) [.Call (.Name "field" q2) [.Name "twin" q3] [] q4, .Name "due" q5] [] q6) q7] s1)
      [.Return (some (.Constant (.bool false) 0 s2)) s3] [] s4) (tThese X.prog X.w X.K X.mg X.base) := by
  have D0 := ps_if (pos := s4) (PW.pt (pw_or (pos := s1) (pt_not (pos := p7) (pt_val (pe_callG (pos := p6) (p := p1) GT hG hr g mT kT bT (pa_cons (pe_callL (pos := p4) (p := p2) (i := 11) hr h11 v11 (pa_cons (pe_var (pos := p3) (i := 9) h9 v9) pa_nil)) (pa_cons (pe_var (pos := p5) (i := 12) h12 v12) pa_nil)))))
    (pw_or1 (pt_not (pos := q7) (pt_val (pe_callG (pos := q6) (p := q1) GT hG hr g mT kT bT (pa_cons (pe_callL (pos := q4) (p := q2) (i := 11) hr h11 v11 (pa_cons (pe_var (pos := q3) (i := 10) h10 v10) pa_nil)) (pa_cons (pe_var (pos := q5) (i := 12) h12 v12) pa_nil))))))))
    (pss_one (ps_ret (pos := s3) (pe_bl (b := false) (j := 0) (pos := s2)))) pss_nil
  refine ⟨fun pins s σ H D I h => D0.run pins s σ H D I ?_⟩
  obtain ⟨i, vs, m, t, f, due, hi, s9, s10, s11, s12, R, G, hl, k⟩ := h
  obtain ⟨F, body, ms, ms2, e3, e4, e5, e6, e7, e8, e9, e10⟩ := R.ex
  refine ⟨f, F, body, _, s11, e7, e9, .ref m, s9, e7, e8, m, Ci X.K i, ms, vs, rfl, Z.C hi, e3, (Z.row i hi).no, e5, fun D1 n1 => ?_⟩
  have x1 : Ext H (upd H D1 (.lst vs)) := Ext.new n1
  refine ⟨.ref due, s12, D1, due, vs, rfl, upd_same, x1 _ _ e10, G.ext x1, hl, true, rfl, ?_⟩
  refine ⟨f, F, body, _, s11, x1 _ _ e7, e9, .ref t, s10, x1 _ _ e7, x1 _ _ e8, t, Ci X.K i, ms2, vs, rfl, Z.C hi, e4.ext fun b o e _ _ => x1 b o e, (Z.row i hi).no, e6, fun D2 n2 => ?_⟩
  have x2 : Ext _ (upd (upd H D1 (.lst vs)) D2 (.lst vs)) := Ext.new n2
  refine ⟨.ref due, s12, D2, due, vs, rfl, upd_same, x2 _ _ (x1 _ _ e10), (G.ext x1).ext x2, hl, true, rfl, ?_⟩
  exact k _ (x1.trans x2)
end
end TBX

set_option Elab.async false
set_option linter.all false
set_option maxRecDepth 100000
set_option maxHeartbeats 8000000
namespace TBX
open PySem PySem.Spec PyProof.Rows L2 TB LamX NdefX
/-! ### the law -/
theorem cut3 (a b c : V) (r : List V) : cutV (a :: b :: c :: r) none (some 3) = [a, b, c] := by
  have h : HT.sIx (a :: b :: c :: r).length (a :: b :: c :: r).length (some 3) = 3 := by
    unfold HT.sIx
    dsimp only
    rw [if_neg (by decide)]
    simp only [List.length_cons]
    show min 3 (r.length + 1 + 1 + 1) = 3
    omega
  unfold cutV
  rw [h]
  rfl
def someV (a1 a2 a3 a4 a6 : Addr) : List V := [.non, .int 5, .int (-1), .bl true, .str "a", .str "", .ref a1, .ref a2, .ref a3, .ref a4, .int (10 ^ (8 : Int).toNat), .ref a6, .bl false, .int 0, .int 1]
structure SomeAt (H : Hp) (p l S : Addr) (xs : List V) : Prop where
  ex : ∃ a1 a2 a3 a4 a5 a6 : Addr, xs = someV a1 a2 a3 a4 a6 ∧ H S = some (.lst xs) ∧ H a1 = some (.lst [.int 1, .str "b"]) ∧ H a2 = some (.tup [.int 2, .non]) ∧ H a3 = some (.dK [(.inr "a", .int 1)]) ∧ H a4 = some (.lst [.ref a5]) ∧ H a5 = some (.lst [.str "x"]) ∧ H a6 = some (.tup [.str "s", .int 3]) ∧
    (∀ b ∈ [S, a1, a2, a3, a4, a5, a6], b ≠ p ∧ b ≠ l)
theorem SomeAt.turned {H H' : Hp} {p l S : Addr} {xs : List V} (s : SomeAt H p l S xs) (k : Turned p l H H') : SomeAt H' p l S xs := by
  obtain ⟨a1, a2, a3, a4, a5, a6, e0, e1, e2, e3, e4, e5, e6, e7, n⟩ := s.ex
  have q : ∀ b o, b ∈ [S, a1, a2, a3, a4, a5, a6] → H b = some o → H' b = some o := fun b o hb e => k b o (n b hb).1 (n b hb).2 e
  exact ⟨a1, a2, a3, a4, a5, a6, e0, q _ _ (by simp) e1, q _ _ (by simp) e2, q _ _ (by simp) e3, q _ _ (by simp) e4, q _ _ (by simp) e5, q _ _ (by simp) e6, q _ _ (by simp) e7, n⟩
theorem SomeAt.extN {H H' : Hp} {p l S : Addr} {xs : List V} (s : SomeAt H p l S xs) (k : ExtN H H') : SomeAt H' p l S xs := by
  obtain ⟨a1, a2, a3, a4, a5, a6, e0, e1, e2, e3, e4, e5, e6, e7, n⟩ := s.ex
  exact ⟨a1, a2, a3, a4, a5, a6, e0, k _ _ e1 (fun ps z => by cases z), k _ _ e2 (fun ps z => by cases z), k _ _ e3 (fun ps z => by cases z), k _ _ e4 (fun ps z => by cases z), k _ _ e5 (fun ps z => by cases z), k _ _ e6 (fun ps z => by cases z), k _ _ e7 (fun ps z => by cases z), n⟩
theorem SomeAt.goods {H : Hp} {p l S : Addr} {xs : List V} (s : SomeAt H p l S xs) : Goods H xs := by
  obtain ⟨a1, a2, a3, a4, a5, a6, rfl, e1, e2, e3, e4, e5, e6, e7, n⟩ := s.ex
  intro v hv
  simp only [someV, List.mem_cons, List.not_mem_nil, or_false] at hv
  rcases hv with rfl | rfl | rfl | rfl | rfl | rfl | rfl | rfl | rfl | rfl | rfl | rfl | rfl | rfl | rfl
  · exact ⟨_, .non, by decide +kernel, by decide +kernel, by decide +kernel⟩
  · exact ⟨_, .int _, by decide +kernel, by decide +kernel, by decide +kernel⟩
  · exact ⟨_, .int _, by decide +kernel, by decide +kernel, by decide +kernel⟩
  · exact ⟨_, .bl _, by decide +kernel, by decide +kernel, by decide +kernel⟩
  · exact ⟨_, .str _, by decide +kernel, by decide +kernel, by decide +kernel⟩
  · exact ⟨_, .str _, by decide +kernel, by decide +kernel, by decide +kernel⟩
  · exact ⟨.list [.int 1, .str "b"], .lst e2 (.cons (.int _) (.cons (.str _) .nil)), by decide +kernel, by decide +kernel, by decide +kernel⟩
  · exact ⟨.tuple [.int 2, .none], .tup e3 (.cons (.int _) (.cons .non .nil)), by decide +kernel, by decide +kernel, by decide +kernel⟩
  · exact ⟨.dict [(.str "a", .int 1)], .dic e4, by decide +kernel, by decide +kernel, by decide +kernel⟩
  · exact ⟨.list [.list [.str "x"]], .lst e5 (.cons (.lst e6 (.cons (.str _) .nil)) .nil), by decide +kernel, by decide +kernel, by decide +kernel⟩
  · exact ⟨_, .int _, by decide +kernel, by decide +kernel, by decide +kernel⟩
  · exact ⟨.tuple [.str "s", .int 3], .tup e7 (.cons (.str _) (.cons (.int _) .nil)), by decide +kernel, by decide +kernel, by decide +kernel⟩
  · exact ⟨_, .bl _, by decide +kernel, by decide +kernel, by decide +kernel⟩
  · exact ⟨_, .int _, by decide +kernel, by decide +kernel, by decide +kernel⟩
  · exact ⟨_, .int _, by decide +kernel, by decide +kernel, by decide +kernel⟩
theorem tabs_turned {T : List (Addr × PySem.Str)} {H H' : Hp} {p l : Addr} {xs ys : List V} (t : Tabs T H) (hp : H p = some (.lst xs)) (hl : H l = some (.lst ys)) (k : Turned p l H H') : Tabs T H' := by
  intro q hq
  obtain ⟨ps, z1, z2, z3⟩ := t q hq
  have ne : ∀ b o, H b = some o → (∀ xs, o ≠ .lst xs) → H' b = some o := fun b o e n => k b o (fun q => by
    rw [q, hp] at e
    exact n _ (Option.some.inj e).symm) (fun q => by
    rw [q, hl] at e
    exact n _ (Option.some.inj e).symm) e
  refine ⟨ps, ne _ _ z1 (fun xs z => by cases z), z2, fun pos cv hc => ?_⟩
  obtain ⟨c0, y1, y2⟩ := z3 pos cv hc
  refine ⟨c0, y1, ne _ _ y2 (fun xs z => ?_)⟩
  unfold CodeO at z
  cases z
theorem spr_extN {H H' : Hp} {p l : Addr} {n : Int} (s : SprAt H p l n) (k : ExtN H H') : SprAt H' p l n := by
  obtain ⟨cs, a, b, s⟩ := s
  exact ⟨cs, a, b, k _ _ s.hp (fun ps z => by cases z), k _ _ s.hl (fun ps z => by cases z), s.ne, s.left0, s.n0, s.mix0, s.mix1⟩
theorem goods_take {H : Hp} {vs : List V} (g : Goods H vs) (n : Nat) : Goods H (vs.take n) := fun v hv => g v (List.mem_of_mem_take hv)
def hs1 (H : Hp) (a1 : Addr) : Hp := upd H a1 (.lst [.int 1, .str "b"])
def hs2 (H : Hp) (a1 a2 : Addr) : Hp := upd (hs1 H a1) a2 (.tup [.int 2, .non])
def hs3 (H : Hp) (a1 a2 a3 : Addr) : Hp := upd (upd (hs2 H a1 a2) a3 (.dK [])) a3 (.dK [(.inr "a", .int 1)])
def hs5 (H : Hp) (a1 a2 a3 a5 : Addr) : Hp := upd (hs3 H a1 a2 a3) a5 (.lst [.str "x"])
def hs4 (H : Hp) (a1 a2 a3 a5 a4 : Addr) : Hp := upd (hs5 H a1 a2 a3 a5) a4 (.lst [.ref a5])
def hs6 (H : Hp) (a1 a2 a3 a5 a4 a6 : Addr) : Hp := upd (hs4 H a1 a2 a3 a5 a4) a6 (.tup [.str "s", .int 3])
def hsS (H : Hp) (a1 a2 a3 a5 a4 a6 S : Addr) : Hp := upd (hs6 H a1 a2 a3 a5 a4 a6) S (.lst (someV a1 a2 a3 a4 a6))
theorem someAt_new {H : Hp} {a1 a2 a3 a5 a4 a6 S p l : Addr} {n : Int} (h1 : H a1 = none) (h2 : hs1 H a1 a2 = none) (h3 : hs2 H a1 a2 a3 = none) (h5 : hs3 H a1 a2 a3 a5 = none) (h4 : hs5 H a1 a2 a3 a5 a4 = none) (h6 : hs4 H a1 a2 a3 a5 a4 a6 = none) (hS : hs6 H a1 a2 a3 a5 a4 a6 S = none) (s : SprAt H p l n) :
    Ext H (hsS H a1 a2 a3 a5 a4 a6 S) ∧ SomeAt (hsS H a1 a2 a3 a5 a4 a6 S) p l S (someV a1 a2 a3 a4 a6) := by
  obtain ⟨cs, u, v, s⟩ := s
  have x1 : Ext H (hs1 H a1) := Ext.new h1
  have x2 : Ext (hs1 H a1) (hs2 H a1 a2) := Ext.new h2
  have x3 : Ext (hs2 H a1 a2) (hs3 H a1 a2 a3) := fun c o e => by
    unfold hs3
    rw [upd_ne (ne_of_none e h3), upd_ne (ne_of_none e h3)]
    exact e
  have x5 : Ext (hs3 H a1 a2 a3) (hs5 H a1 a2 a3 a5) := Ext.new h5
  have x4 : Ext (hs5 H a1 a2 a3 a5) (hs4 H a1 a2 a3 a5 a4) := Ext.new h4
  have x6 : Ext (hs4 H a1 a2 a3 a5 a4) (hs6 H a1 a2 a3 a5 a4 a6) := Ext.new h6
  have xS : Ext (hs6 H a1 a2 a3 a5 a4 a6) (hsS H a1 a2 a3 a5 a4 a6 S) := Ext.new hS
  have y6 := x6.trans xS
  have y4 := x4.trans y6
  have y5 := x5.trans y4
  have y3 := x3.trans y5
  have y2 := x2.trans y3
  have z2 := x1
  have z3 := z2.trans x2
  have z5 := z3.trans x3
  have z4 := z5.trans x5
  have z6 := z4.trans x4
  have zS := z6.trans x6
  have ne : ∀ {H' : Hp} {b : Addr}, Ext H H' → H' b = none → b ≠ p ∧ b ≠ l := fun {H' b} k n => ⟨(ne_of_none (k _ _ s.hp) n).symm, (ne_of_none (k _ _ s.hl) n).symm⟩
  refine ⟨x1.trans y2, a1, a2, a3, a4, a5, a6, rfl, upd_same, y2 _ _ upd_same, y3 _ _ upd_same, y5 _ _ upd_same, y6 _ _ upd_same, y4 _ _ upd_same, xS _ _ upd_same, fun b hb => ?_⟩
  simp only [List.mem_cons, List.not_mem_nil, or_false] at hb
  rcases hb with rfl | rfl | rfl | rfl | rfl | rfl | rfl
  · exact ne zS hS
  · exact ne (fun _ _ e => e) h1
  · exact ne z2 h2
  · exact ne z3 h3
  · exact ne z4 h4
  · exact ne z5 h5
  · exact ne z6 h6
theorem SomeAt.at_ {H : Hp} {p l S : Addr} {xs : List V} (s : SomeAt H p l S xs) : H S = some (.lst xs) := by
  obtain ⟨a1, a2, a3, a4, a5, a6, e0, e1, _⟩ := s.ex
  exact e1
theorem SomeAt.len {H : Hp} {p l S : Addr} {xs : List V} (s : SomeAt H p l S xs) : xs.length = 15 := by
  obtain ⟨a1, a2, a3, a4, a5, a6, e0, e1, _⟩ := s.ex
  rw [e0]
  rfl
theorem range_at {i : Nat} (h : i < 52) : (List.range 52)[i]? = some i := by
  rw [List.getElem?_range h]
theorem u65 {A : Around} {k : Nat} (hr : Room k A) : A.units + 65 < cLine := by
  have z := hr.un
  omega
def spLaw (K : PySem.W.Frag) : Sp := fun vs H Q _ => ∃ (a : Addr) (ns : List Int), vs = [.ref a] ∧ SqL K H a (ns.map V.int) ∧ Tabs (TT K) H ∧ ∀ H', Q (.bl true) H'
theorem scLaw : FnScope ["script", "stream", "some", "turn", "x", "y", "z", "made", "at", "mine", "twin", "field", "due", "held", "base"] ["script"] (defScope (top 67)) := ⟨rfl, rfl, rfl, by decide +kernel, rfl, by decide +kernel, by decide +kernel⟩
section
variable {P : Program} {w : World} {K : PySem.W.Frag} {mg : PySem.Str → Option Value} {base : Heap} {fd : FuncData} {f : Addr}
theorem ok_law {fS fM fA fB fC fO fT fK : Addr} {fdS fdM fdA fdB fdC fdO fdT fdK : FuncData} (Z : Facts K) (F : FnP K "law" (top 67) f fd)
    (GS : FnOk P w K mg base CX0 1 fS fdS ["script"] (spStart K)) (mS : mg "_law_start" = some (.ref fS)) (kS : PySem.W.keepIn K (.ref fS) = true) (bS : L2.Binds K fdS ["script"] [])
    (GM : FnOk P w K mg base CX0 2 fM fdM ["stream", "some"] (spMixed K)) (mM : mg "_law_mixed" = some (.ref fM)) (kM : PySem.W.keepIn K (.ref fM) = true) (bM : L2.Binds K fdM ["stream", "some"] [])
    (GA : FnOk P w K mg base CX0 3 fA fdA ["x", "y", "z"] (spMade P w K mg base isA)) (mA : mg "_law_made_a" = some (.ref fA)) (kA : PySem.W.keepIn K (.ref fA) = true) (bA : L2.Binds K fdA ["x", "y", "z"] [])
    (GB : FnOk P w K mg base CX0 3 fB fdB ["x", "y", "z"] (spMade P w K mg base isB)) (mB : mg "_law_made_b" = some (.ref fB)) (kB : PySem.W.keepIn K (.ref fB) = true) (bB : L2.Binds K fdB ["x", "y", "z"] [])
    (GC : FnOk P w K mg base CX0 3 fC fdC ["x", "y", "z"] (spMade P w K mg base isC)) (mC : mg "_law_made_c" = some (.ref fC)) (kC : PySem.W.keepIn K (.ref fC) = true) (bC : L2.Binds K fdC ["x", "y", "z"] [])
    (GO : FnOk P w K mg base CX0 3 fO fdO ["e", "at"] (spOwn K)) (mO : mg "_law_is_own" = some (.ref fO)) (kO : PySem.W.keepIn K (.ref fO) = true) (bO : L2.Binds K fdO ["e", "at"] [])
    (GT : FnG P w K mg base 1 fT fdT ["found", "due"] spThese) (mT : mg "_law_are_these" = some (.ref fT)) (kT : PySem.W.keepIn K (.ref fT) = true) (bT : L2.Binds K fdT ["found", "due"] [])
    (GK : FnOk P w K mg base CX0 2 fK fdK ["e"] (spKinds K (List.range 52))) (mK : mg "_law_kinds" = some (.ref fK)) (kK : PySem.W.keepIn K (.ref fK) = true) (bK : L2.Binds K fdK ["e"] [])
    (c0 : Cl0 K mg "WriteError" (Wb K)) (mI : mg "isinstance" = none) (mV : mg "ValueError" = none) (mR : mg "range" = none) (mE : mg "enumerate" = none) : FnG P w K mg base 4 f fd ["script"] (spLaw K) := by
  refine fng_of F scLaw (fun vs H Q E h => ?_) (fun cdv A outer s H vs Q hg hr h => ?_)
  · obtain ⟨a, ns, rfl, _⟩ := h
    rfl
  obtain ⟨a, ns, rfl, hS, hT, k⟩ := h
  have nd := scLaw.nd
  have hr1 := room_le (j := 1) hr (by decide)
  have hr2 := room_le (j := 2) hr (by decide)
  refine ⟨_, PSs.nox (pss_cons (ps_set (i := 1) nd rfl (Or.inl rfl) (pe_call GS hr1 (by rfl) mS kS bS .nil pass0 (pa_cons (pv 0) pa_nil)))
    (pss_cons (ps_set (i := 2) nd rfl (Or.inl rfl) (pe_lst (pa_cons pe_non (pa_cons pe_int (pa_cons (pe_un un_neg pe_int) (pa_cons pe_bl (pa_cons pe_str (pa_cons pe_str (pa_cons (pe_lst (pa_cons pe_int (pa_cons pe_str pa_nil))) (pa_cons (pe_tup (pa_cons pe_int (pa_cons pe_non pa_nil)))
      (pa_cons (pe_disp (pps_cons pe_str pe_int pps_nil) rfl rfl (fun z => nomatch z) (by decide)) (pa_cons (pe_lst (pa_cons (pe_lst (pa_cons pe_str pa_nil)) pa_nil)) (pa_cons (pe_op op_pow pe_int pe_int) (pa_cons (pe_tup (pa_cons pe_str (pa_cons pe_int pa_nil))) (pa_cons pe_bl (pa_cons pe_int (pa_cons pe_int pa_nil)))))))))))))))))
    (pss_cons (ps_for PassesOwn.never rfl (pi_range1 (by rfl) mR (pa_cons pe_int pa_nil)) (pg_name (i := 3) nd rfl (Or.inl rfl))
      (pss_cons (ps_asg (pe_slice sl_list (pe_call GM hr2 (by rfl) mM kM bM .nil pass0 (pa_cons (pv 1) (pa_cons (pv 2) pa_nil))) po_none (po_some pe_int)) (pg_unl rfl (pgs_cons (pg_name (i := 4) nd rfl (Or.inl rfl)) (pgs_cons (pg_name (i := 5) nd rfl (Or.inl rfl)) (pgs_cons (pg_name (i := 6) nd rfl (Or.inl rfl)) pgs_nil)))))
      (pss_cons (ps_set (i := 7) nd rfl (Or.inl rfl) (pe_made3 (i1 := 4) (i2 := 5) (i3 := 6) ⟨GA, GB, GC, mA, mB, mC, kA, kB, kC, bA, bB, bC⟩ hr rfl (by rfl) (by rfl) (by rfl) rfl rfl rfl (Or.inl rfl) (Or.inl rfl) (Or.inl rfl) rfl rfl rfl rfl rfl rfl))
      (pss_one (ps_for PassesOwn.never rfl (pi_enum (by rfl) mE (pa_cons (pv 7) pa_nil)) (pg_tup rfl (pgs_cons (pg_name (i := 8) nd rfl (Or.inl rfl)) (pgs_cons (pg_tup rfl (pgs_cons (pg_name (i := 9) nd rfl (Or.inl rfl)) (pgs_cons (pg_name (i := 10) nd rfl (Or.inl rfl)) (pgs_cons (pg_name (i := 11) nd rfl (Or.inl rfl)) (pgs_cons (pg_name (i := 12) nd rfl (Or.inl rfl)) pgs_nil))))) pgs_nil)))
        (pss_cons (ps_if (PW.pt (pw_or (pt_not (pt_val (pe_call GO hr (by rfl) mO kO bO .nil pass0 (pa_cons (pv 9) (pa_cons (pv 8) pa_nil))))) (pw_or1 (pt_not (pt_val (pe_call GO hr (by rfl) mO kO bO .nil pass0 (pa_cons (pv 10) (pa_cons (pv 8) pa_nil)))))))) (pss_one (ps_ret pe_bl)) pss_nil)
        (pss_one (ps_these Z GT hg hr1 (by rfl) mT kT bT rfl rfl rfl rfl (Or.inl rfl) (Or.inl rfl) (Or.inl rfl) (Or.inl rfl)))))))))
    (pss_cons (ps_set (i := 13) nd rfl (Or.inl rfl) (pe_lst (pa_cons pe_str pa_nil)))
    (pss_cons (ps_set (i := 7) nd rfl (Or.inl rfl) (pe_made3 (i1 := 13) (i2 := 13) (i3 := 13) ⟨GA, GB, GC, mA, mB, mC, kA, kB, kC, bA, bB, bC⟩ hr rfl (by rfl) (by rfl) (by rfl) rfl rfl rfl (Or.inl rfl) (Or.inl rfl) (Or.inl rfl) rfl rfl rfl rfl rfl rfl))
    (pss_cons (ps_expr (pe_bm PySem.F.plainAttrs_list PySem.F.slot_list_append PySem.F.type_list_append mt_append (pv 13) (pa_cons pe_str pa_nil)))
    (pss_cons (ps_for PassesOwn.never rfl (pi_list (pv 7)) (pg_tup rfl (pgs_cons (pg_name (i := 9) nd rfl (Or.inl rfl)) (pgs_cons (pg_name (i := 10) nd rfl (Or.inl rfl)) (pgs_cons (pg_name (i := 11) nd rfl (Or.inl rfl)) (pgs_cons (pg_name (i := 12) nd rfl (Or.inl rfl)) pgs_nil)))))
      (pss_one (ps_these Z GT hg hr1 (by rfl) mT kT bT rfl rfl rfl rfl (Or.inl rfl) (Or.inl rfl) (Or.inl rfl) (Or.inl rfl))))
    (pss_cons (ps_set (i := 14) nd rfl (Or.inl rfl) (pe_mk0 c0 (by rfl)))
    (pss_one (ps_ret (pe_and (pe_callB (call_isX Z.g) (by rfl) mI PyProof.Rows.boot_isinstance (pa_cons (pv 14) (pa_cons (pe_bltn (v := .ty "ValueError") (by rfl) mV PyProof.Rows.Boot.«ValueError» rfl) pa_nil)))
      (pe_one (pe_cmpR (op_notInD (u65 hr)) pe_bl (pe_call GK hr2 (by rfl) mK kK bK .nil pass0 (pa_cons (pv 14) pa_nil)) (by rfl)))))))))))))), ?_⟩
  refine ⟨.ref a, rfl, a, ns, rfl, hS, fun p l H1 hl hp x1 spr1 => ?_⟩
  have T1 : Tabs (TT K) H1 := hT.ext x1
  -- some = [..]
  refine ⟨_, rfl, ⟨(by show 2 ≤ sizeLine; decide), fun a1 h1 => ?_⟩⟩
  refine ⟨(by show 2 ≤ sizeLine; decide), fun a2 h2 => ?_⟩
  refine fun a3 h3 => ⟨upd_same, [(.inr "a", .int 1)], rfl, by decide, ?_⟩
  refine ⟨(by show 1 ≤ sizeLine; decide), fun a5 h5 => ⟨(by show 1 ≤ sizeLine; decide), fun a4 h4 => ?_⟩⟩
  refine ⟨10, 8, rfl, rfl, ⟨by decide, by decide, by decide⟩, ?_⟩
  refine ⟨(by show 2 ≤ sizeLine; decide), fun a6 h6 => ?_⟩
  refine ⟨(by show 15 ≤ sizeLine; decide), fun S hS => ?_⟩
  obtain ⟨xS, sm0⟩ := someAt_new h1 h2 h3 h5 h4 h6 hS spr1
  have T2 := T1.ext xS
  have spr2 := spr_extN spr1 (ExtN.of xS)
  generalize someV a1 a2 a3 a4 a6 = xs at sm0
  -- for turn in range(2)
  refine ⟨2, rfl, by decide, by decide, for_range (n := 2) (fun k σ H => ∃ b3 b4 b5 b6 b7 b8 b9 b10 b11 b12 b13 b14 : Option V, σ = [some (.ref a), some (.ref p), some (.ref S), b3, b4, b5, b6, b7, b8, b9, b10, b11, b12, b13, b14] ∧ SprAt H p l (15 * (k : Int)) ∧ SomeAt H p l S xs ∧ Tabs (TT K) H) ?_ ?_ ?_⟩
  · exact ⟨none, none, none, none, none, none, none, none, none, none, none, none, rfl, spr2, sm0, T2⟩
  · rintro k σ H2 hk ⟨b3, b4, b5, b6, b7, b8, b9, b10, b11, b12, b13, b14, rfl, spr, sm, tb⟩
    refine ⟨.ref p, rfl, .ref S, rfl, p, l, S, _, xs, rfl, spr, .inl (SqL.of sm.at_), by rw [sm.len]; decide, by omega, fun D H3 ys nD t3 spr3 eD perm => ?_⟩
    have hlen : ys.length = 15 := by rw [perm.length_eq, sm.len]
    obtain ⟨y0, y1, y2, r, rfl⟩ : ∃ y0 y1 y2 r, ys = y0 :: y1 :: y2 :: r := by
      match ys, hlen with
      | y0 :: y1 :: y2 :: r, _ => exact ⟨y0, y1, y2, r, rfl⟩
    refine ⟨3, rfl, D, _, rfl, SqL.of eD, fun q nq => ?_⟩
    have xq : Ext H3 (upd H3 q (.lst (cutV (y0 :: y1 :: y2 :: r) none (some 3)))) := Ext.new nq
    refine ⟨q, [y0, y1, y2], rfl, .inl (.inl (by rw [upd_same, cut3])), rfl, y0, _, rfl, y1, _, rfl, y2, _, rfl, rfl, ?_⟩
    have tb3 : Tabs (TT K) H3 := by
      obtain ⟨cs, u, v, s⟩ := spr
      exact tabs_turned tb s.hp s.hl t3
    have gd3 : Goods H3 [y0, y1, y2] := fun v hv => (sm.turned t3).goods v (perm.mem_iff.mp (by
      simp only [List.mem_cons, List.not_mem_nil, or_false] at hv ⊢
      rcases hv with h | h | h
      · exact .inl h
      · exact .inr (.inl h)
      · exact .inr (.inr (.inl h))))
    have spr4 : SprAt H3 p l (15 * ((k + 1 : Nat) : Int)) := by
      have e : 15 * (k : Int) + (xs.length : Int) = 15 * ((k + 1 : Nat) : Int) := by
        rw [sm.len]
        omega
      rw [← e]
      exact spr3
    refine ⟨y0, y1, y2, [], rfl, rfl, rfl, tb3.ext xq, fun b hb => by simp at hb, fun D2 H4 us x4 rows eD2 T4 => ?_⟩
    have xn := (ExtN.of xq).trans x4
    have lus : us.length = 52 := by rw [rows.len, List.length_range]
    refine ⟨.ref D2, rfl, D2, us, rfl, SqL.of eD2, for_it (walk_enum (K := K) (a := D2) (xs := us)) (fun i σ H => ∃ c8 c9 c10 c11 c12 : Option V, σ = [some (.ref a), some (.ref p), some (.ref S), some (.int (0 + (k : Int))), some y0, some y1, some y2, some (.ref D2), c8, c9, c10, c11, c12, b13, b14] ∧ SprAt H p l (15 * ((k + 1 : Nat) : Int)) ∧ SomeAt H p l S xs ∧ Tabs (TT K) H ∧
      RowsAt P w K mg base [] H [y0, y1, y2] (List.range 52) us ∧ H D2 = some (.lst us) ∧ Goods H [y0, y1, y2]) ?_ ?_ ?_ ?_⟩
    · exact ⟨b8, b9, b10, b11, b12, rfl, spr_extN spr4 xn, (sm.turned t3).extN xn, T4, rows, eD2, gd3.extN xn⟩
    · rintro i σ H5 hi ⟨c8, c9, c10, c11, c12, rfl, spr5, sm5, tb5, rows5, eD5, gd5⟩
      exact SqL.of eD5
    · rintro i v σ H5 H6 hi ⟨c8, c9, c10, c11, c12, rfl, spr5, sm5, tb5, rows5, eD5, gd5⟩ ⟨T, vx, vy, rfl, nT, rfl, ex, ey⟩
      have hi2 : i < 52 := by omega
      cases ex
      obtain ⟨tp, m, t, fn, due, rfl, etp, RP⟩ := (rows5.get i i vy (range_at hi2) ey).parts
      have x6 : Ext H5 (upd H5 T (.tup [.int (i : Nat), .ref tp])) := Ext.new nT
      have RP6 := RP.ext x6
      obtain ⟨F0, body0, ms, ms2, ea, ea2, _⟩ := RP6.ex
      refine ⟨T, [.int (i : Nat), .ref tp], rfl, .inl (.inl upd_same), rfl, .int (i : Nat), _, rfl, .ref tp, _, rfl, tp, _, rfl, .inl (.inl (x6 _ _ etp)), rfl, .ref m, _, rfl, .ref t, _, rfl, .ref fn, _, rfl, .ref due, _, rfl, rfl, rfl, ?_⟩
      refine ⟨.ref m, rfl, .int (i : Nat), rfl, m, i, ms, rfl, hi2, ea, fun H7 x7 => ⟨true, rfl, ?_⟩⟩
      refine ⟨.ref t, rfl, .int (i : Nat), rfl, t, i, ms2, rfl, hi2, ea2.ext fun b o e _ _ => x7 b o e, fun H8 x8 => ⟨true, rfl, ?_⟩⟩
      have x68 := (x6.trans x7).trans x8
      refine ⟨i, _, m, t, fn, due, hi2, rfl, rfl, rfl, rfl, RP.ext x68, goods_take (gd5.ext x68) _, by rw [List.length_take]; exact Nat.min_le_right _ _, fun H9 x9 => ?_⟩
      have xx := x68.trans x9
      exact ⟨_, _, _, _, _, rfl, spr_extN spr5 (ExtN.of xx), sm5.extN (ExtN.of xx), tb5.ext xx, rows5.extN (ExtN.of xx), xx _ _ eD5, gd5.ext xx⟩
    · rintro σ H5 ⟨c8, c9, c10, c11, c12, rfl, spr5, sm5, tb5, rows5, eD5, gd5⟩
      exact ⟨_, _, _, _, _, _, _, _, _, _, _, _, rfl, spr5, sm5, tb5⟩
  · rintro σ H2 ⟨b3, b4, b5, b6, b7, b8, b9, b10, b11, b12, b13, b14, rfl, spr, sm, tb⟩
    -- held = ["v"]
    refine ⟨(by show 1 ≤ sizeLine; decide), fun hd nhd => ?_⟩
    have x3 : Ext H2 (upd H2 hd (.lst [.str "v"])) := Ext.new nhd
    have ehd0 : (upd H2 hd (.lst [.str "v"])) hd = some (.lst [.str "v"]) := upd_same
    refine ⟨.ref hd, .ref hd, .ref hd, [hd], rfl, rfl, rfl, tb.ext x3, fun b hb => ?_, fun D3 H4 us x4 rows eD3 T4 => ?_⟩
    · obtain rfl : b = hd := by simpa using hb
      exact ⟨_, ehd0, fun ps z => by cases z⟩
    have lus : us.length = 52 := by rw [rows.len, List.length_range]
    have ehd : H4 hd = some (.lst [.str "v"]) := x4 _ _ ehd0 fun ps z => by cases z
    have nDh : D3 ≠ hd := fun z => by
      rw [z, ehd] at eD3
      have e := Option.some.inj eD3
      injection e with e
      rw [← e] at lus
      cases lus
    refine ⟨.ref hd, rfl, .inl ⟨rfl, _, SqL.of ehd⟩, hd, [.str "v"], .str "w", rfl, rfl, ehd, (by show 1 < sizeLine; decide), ?_⟩
    have eD4 : (upd H4 hd (.lst ([.str "v"] ++ [.str "w"]))) D3 = some (.lst us) := by
      rw [upd_ne nDh]
      exact eD3
    have rows4 : RowsAt P w K mg base [hd] (upd H4 hd (.lst ([.str "v"] ++ [.str "w"]))) [.ref hd, .ref hd, .ref hd] (List.range 52) us := rows.ext fun b o e nt z => by
      have nb : b ≠ hd := fun q => by
        rcases z with z | z
        · rw [q, ehd] at e
          exact z _ (Option.some.inj e).symm
        · exact z (by rw [q]; simp)
      rw [upd_ne nb]
      exact e
    refine ⟨.ref D3, rfl, D3, rfl, ⟨us, SqL.of eD4⟩, for_list (xs := us) (fun i σ H => ∃ c3 c4 c5 c6 c8 c9 c10 c11 c12 c14 : Option V, σ = [some (.ref a), some (.ref p), some (.ref S), c3, c4, c5, c6, some (.ref D3), c8, c9, c10, c11, c12, some (.ref hd), c14] ∧
      RowsAt P w K mg base [hd] H [.ref hd, .ref hd, .ref hd] (List.range 52) us ∧ H D3 = some (.lst us) ∧ H hd = some (.lst [.str "v", .str "w"])) ?_ ?_ ?_ ?_⟩
    · exact ⟨b3, b4, b5, b6, b8, b9, b10, b11, b12, b14, rfl, rows4, eD4, upd_same⟩
    · rintro i σ H5 hi ⟨c3, c4, c5, c6, c8, c9, c10, c11, c12, c14, rfl, rows5, eD5, eh5⟩
      exact SqL.of eD5
    · rintro i v σ H5 ev ⟨c3, c4, c5, c6, c8, c9, c10, c11, c12, c14, rfl, rows5, eD5, eh5⟩
      have hi2 : i < 52 := by
        have := (List.getElem?_eq_some_iff.mp ev).1
        omega
      obtain ⟨tp, m, t, fn, due, rfl, etp, RP⟩ := (rows5.get i i v (range_at hi2) ev).parts
      have gd : Goods H5 [.ref hd, .ref hd, .ref hd] := fun v hv => by
        obtain rfl : v = .ref hd := by simpa using hv
        exact ⟨.list [.str "v", .str "w"], .lst eh5 (.cons (.str _) (.cons (.str _) .nil)), by decide +kernel, by decide +kernel, by decide +kernel⟩
      refine ⟨tp, _, rfl, .inl (.inl etp), rfl, .ref m, _, rfl, .ref t, _, rfl, .ref fn, _, rfl, .ref due, _, rfl, rfl, ?_⟩
      refine ⟨i, _, m, t, fn, due, hi2, rfl, rfl, rfl, rfl, RP, goods_take gd _, by rw [List.length_take]; exact Nat.min_le_right _ _, fun H9 xx => ?_⟩
      exact ⟨_, _, _, _, _, _, _, _, _, _, rfl, rows5.extN (ExtN.of xx), xx _ _ eD5, xx _ _ eh5⟩
    · rintro σ H5 ⟨c3, c4, c5, c6, c8, c9, c10, c11, c12, c14, rfl, rows5, eD5, eh5⟩
      -- base = WriteError()
      refine fun e H6 ne x6 ea => ?_
      refine ⟨.ref e, rfl, e, Wb K, [], .ty "ValueError", _, true, rfl, .ty _, Z.base.T, ea, Z.kitBV, true, rfl, ?_⟩
      refine ⟨.ref e, rfl, e, Wb K, [], fun _ => false, rfl, ⟨Z.base.T, ea, fun j hj => Z.kitB hj⟩, fun D H7 nD x7 eD => ?_⟩
      rw [kV_bl] at eD
      refine ⟨.bool true, _, .bl true, .lst (.inl (.inl eD)) (blsAll K H7 _), by decide +kernel, shapedBls _, ?_⟩
      rw [show (((List.range 52).map fun _ => false).map PyData.bool).any (fun z => PyData.eqv z (.bool true)) = false by decide +kernel]
      exact k H7
end
end TBX

set_option Elab.async false
set_option linter.all false
set_option maxRecDepth 100000
set_option maxHeartbeats 4000000
namespace TBX
open PySem PySem.Spec PyProof.Rows L2 TB LamX NdefX
/-! ### the end: the law's call, tables tracked, nothing guarded -/
abbrev noTab : Obj := { cls := .none, data := .fields #[] }
/-- tracked: the tables, and maybe the script -/
def startH (ts : List Addr) (a : Addr) (u : Option HO) : Hp := fun b => if b ∈ ts then some (.tbl #[]) else if b = a then u else none
section
variable {ts : List Addr} {a : Addr} {u : Option HO}
theorem startH_tab {b : Addr} (h : b ∈ ts) : startH ts a u b = some (.tbl #[]) := if_pos h
theorem startH_scr (h : a ∉ ts) : startH ts a u a = u := (if_neg h).trans (if_pos rfl)
theorem startH_off {b : Addr} (h : b ∉ ts) (n : b ≠ a) : startH ts a u b = none := (if_neg h).trans (if_neg n)
theorem startH_cases (b : Addr) : (b ∈ ts ∧ startH ts a u b = some (.tbl #[])) ∨ (b ∉ ts ∧ b = a ∧ startH ts a u b = u) ∨ (b ∉ ts ∧ b ≠ a ∧ startH ts a u b = none) := by
  by_cases h : b ∈ ts
  · exact .inl ⟨h, startH_tab h⟩
  · by_cases n : b = a
    · subst n
      exact .inr (.inl ⟨h, rfl, startH_scr h⟩)
    · exact .inr (.inr ⟨h, n, startH_off h n⟩)
end
theorem law_end {P : Program} {w : World} {K : PySem.W.Frag} {mg mb : PySem.Str → Option Value} {k : Nat} {fa a : Addr} {cs : List (Addr × Addr)} {fd : FuncData} {x : PySem.Str} {sp : Sp} {s₁ : Shared} {vs : List Value} {ns : List Int}
    (KX : K.In s₁.heap) (G1 : s₁.heap.Ns mainGlobals mg) (G2 : s₁.heap.Ns builtinsNs mb) (G3 : ∀ x : PySem.Str, x ≠ "__name__" → mb x = bootBuiltins x) (G4 : s₁.heap.NoLimit) (G5 : s₁.gens = #[])
    (hT : ∀ p ∈ cs, s₁.heap.get? p.2 = some noTab) (nT : ∀ p ∈ cs, K.lookup p.2 = none) (C : ∀ p ∈ cs, PySem.W.CodeHd s₁.heap p.1 p.2)
    (hm : ∃ (bm : Addr) (ob : Obj), mg "__builtins__" = some (.ref bm) ∧ bm ≠ builtinsNs ∧ s₁.heap.get? bm = some ob ∧ ob.cls = .type "module" ∧ ob.dict = some builtinsNs ∧ ob.data = .plain)
    (ha : s₁.heap.get? a = some { cls := .type "list", data := .seq vs.toArray }) (hi : IntsAre vs ns) (hl : ns.length ≤ sizeLine) (hr : Room k callerA)
    (F : ∀ base : Heap, K.In base → base.Ns mainGlobals mg → (∀ p ∈ cs, TabB base mg p.1 p.2) → FnG P w K mg base k fa fd [x] sp) (hbind : ∀ (s : Shared) (v : Value), BindsTo s fd ⟨[v], []⟩ [(x, v)])
    (hsp : ∀ H : Hp, (∀ p ∈ cs, H p.2 = some (.tbl #[])) → SqL K H a (ns.map V.int) → sp [.ref a] H (fun v _ => v = .bl true) E0) :
    codeAny (model P w) callerA (.call (.ref fa) ⟨[.ref a], []⟩) (fun r s' => r = .ok (.ret (.bool true)) ∧ OldK s₁.heap s'.heap ∧ s'.os = s₁.os ∧ AllBare s'.gens) s₁ := by
  have tabs : ∀ b, b ∈ cs.map (·.2) → s₁.heap.get? b = some noTab ∧ K.lookup b = none := fun b hb => by
    obtain ⟨p, hp, rfl⟩ := List.mem_map.mp hb
    exact ⟨hT p hp, nT p hp⟩
  have inT : ∀ p ∈ cs, p.2 ∈ cs.map (·.2) := fun p hp => List.mem_map_of_mem hp
  have a0 : a ∉ cs.map (·.2) := fun h => by
    have z := (tabs a h).1
    rw [ha] at z
    have e := congrArg Obj.data (Option.some.inj z)
    cases e
  have hints : Vals (ns.map V.int) vs := vals_ints hi
  obtain ⟨u, hu, hus⟩ : ∃ u : Option HO, (u = none ∨ K.lookup a = none ∧ u = some (.frz { cls := .type "list", data := .seq vs.toArray } (.lst (ns.map V.int)))) ∧ SqL K (startH (cs.map (·.2)) a u) a (ns.map V.int) := by
    cases q : K.lookup a with
    | none => exact ⟨_, .inr ⟨rfl, rfl⟩, .inl (.inr ⟨_, startH_scr a0⟩)⟩
    | some o =>
      have e := KX a o q
      rw [ha] at e
      cases e
      exact ⟨none, .inl rfl, .inr ⟨_, vs.toArray, _, q, rfl, rfl, rfl, by rw [List.size_toArray, hi.length]; exact hl, by simpa using hints⟩⟩
  -- what is not a table and no list is hidden from nobody
  have off : ∀ {b : Addr} {o : Obj}, s₁.heap.get? b = some o → o.data ≠ .fields #[] → (∀ xs n, o.data ≠ .seq xs n) → startH (cs.map (·.2)) a u b = none := fun {b o} e h1 h2 => by
    rcases startH_cases (ts := cs.map (·.2)) (a := a) (u := u) b with ⟨h, _⟩ | ⟨_, h, _⟩ | ⟨_, _, h⟩
    · have z := (tabs b h).1
      rw [e] at z
      cases z
      exact (h1 rfl).elim
    · rw [h, ha] at e
      cases e
      exact (h2 _ _ rfl).elim
    · exact h
  have seen : ∀ {b : Addr} {o : Obj}, s₁.heap.get? b = some o → o.data ≠ .fields #[] → (∀ xs n, o.data ≠ .seq xs n) → (hidT s₁.heap (startH (cs.map (·.2)) a u)).get? b = some o := fun e h1 h2 => hidT_get e (off e h1 h2)
  have seenNs : ∀ {b : Addr} {m : PySem.Str → Option Value}, s₁.heap.Ns b m → (hidT s₁.heap (startH (cs.map (·.2)) a u)).Ns b m := fun {b m} ⟨o, es, ep, e, d, r⟩ =>
    ⟨o, es, ep, seen e (by rw [d]; exact fun z => nomatch z) (by rw [d]; exact fun _ _ z => nomatch z), d, r⟩
  have seenK : K.In (hidT s₁.heap (startH (cs.map (·.2)) a u)) := fun b o e => hidT_get (KX b o e) (by
    rcases startH_cases (ts := cs.map (·.2)) (a := a) (u := u) b with ⟨h, _⟩ | ⟨_, h, z⟩ | ⟨_, _, h⟩
    · rw [(tabs b h).2] at e
      cases e
    · rcases hu with hu | ⟨hu, _⟩
      · rw [z, hu]
      · rw [h, hu] at e
        cases e
    · exact h)
  have TB : ∀ p ∈ cs, TabB (hidT s₁.heap (startH (cs.map (·.2)) a u)) mg p.1 p.2 := fun p hp => by
    refine ⟨?_, ?_, fun z => ?_⟩
    · obtain ⟨o, us, file, tf, flags, tg, inF, text, tt, e1, r1, r2, r3, r⟩ := C p hp
      refine ⟨o, us, file, tf, flags, tg, inF, text, tt, seen e1 (fun z => ?_) (fun _ _ z => ?_), r1, r2, r3, r⟩
      · rw [r2] at z
        cases z
        simp at r3
      · rw [r2] at z
        cases z
    · obtain ⟨bm, ob, b1, b2, b3, b4, b5, b6⟩ := hm
      refine ⟨bm, ob, b1, b2, fun q => ?_, fun q => ?_, seen b3 (by rw [b6]; exact fun z => nomatch z) (by rw [b6]; exact fun _ _ z => nomatch z), b4, b5, b6⟩
      · obtain ⟨o, es, ep, e, d, _⟩ := G1
        rw [q, e] at b3
        cases b3
        rw [d] at b6
        cases b6
      · rw [q, hT p hp] at b3
        cases b3
        cases b6
    · obtain ⟨o, es, ep, e, d, _⟩ := G1
      rw [z, hT p hp] at e
      cases e
      cases d
  have hok : HOk P w (startH (cs.map (·.2)) a u) s₁.heap := fun b o e => by
    rcases startH_cases (ts := cs.map (·.2)) (a := a) (u := u) b with ⟨h, z⟩ | ⟨_, h, z⟩ | ⟨_, _, z⟩
    · rw [z] at e
      cases e
      exact (tabs b h).1
    · rw [z] at e
      rcases hu with hu | ⟨_, hu⟩
      · rw [hu] at e
        cases e
      · rw [hu] at e
        cases e
        subst h
        exact ⟨ha, by rw [List.length_map]; exact hl, vs, _, hints, ha⟩
    · rw [z] at e
      cases e
  have e0 : Env0 P w K mg (hidT s₁.heap (startH (cs.map (·.2)) a u)) callerA [] s₁ (startH (cs.map (·.2)) a u) :=
    ⟨rfl, ⟨seenK, seenNs G1, ⟨mb, seenNs G2, G3⟩, let ⟨m, h1, h2⟩ := G4; ⟨m, seenNs h1, h2⟩⟩, fun b o e => of_hidT e, Nat.le_of_eq (hidT_size _ _), trivial, fun b hb => absurd (show b ∈ ([] : List Addr) from hb) (by simp), hok, .of_eq G5⟩
  refine codeAny_mono ((F _ seenK (seenNs G1) TB).run callerA [] s₁ _ ⟨[.ref a], []⟩ [.ref a] [.ref a] _ rfl hr e0 (hbind s₁ (.ref a)) (.cons rfl .nil) (hsp _ (fun p hp => startH_tab (inT p hp)) hus)) fun r s' h => ?_
  cases r with
  | error er => exact (show False from h).elim
  | ok fl =>
  cases fl with
  | next => exact False.elim h
  | brk => exact False.elim h
  | cont => exact False.elim h
  | ret v0 =>
    obtain ⟨v, H', os, bare, un, hok', r', q⟩ := h
    have q : v = .bl true := q
    subst q
    obtain rfl : v0 = Value.bool true := r'
    have grown : ∀ b, b ∈ cs.map (·.2) → ∃ more : Array Value, s'.heap.get? b = some { cls := .none, data := .fields more } := fun b hb => by
      obtain ⟨more, z⟩ := un.tbls b #[] (startH_tab hb)
      exact ⟨_, hok' b _ z⟩
    have same : ∀ b o, b ∉ cs.map (·.2) → s₁.heap.get? b = some o → s'.heap.get? b = some o := fun b o nb e => by
      have plain : startH (cs.map (·.2)) a u b = none → s'.heap.get? b = some o := fun z => un.keep b o e z (by intro y; exact absurd (show b ∈ ([] : List Addr) from y) (by simp)) (by simp)
      rcases startH_cases (ts := cs.map (·.2)) (a := a) (u := u) b with ⟨h, _⟩ | ⟨_, h, z⟩ | ⟨_, _, z⟩
      · exact absurd h nb
      · rcases hu with hu | ⟨_, hu⟩
        · exact plain (by rw [z, hu])
        · subst hu
          have z2 := un.frzs b _ _ z
          obtain ⟨e1, _⟩ := hok b _ z
          obtain ⟨e2, _⟩ := hok' b _ z2
          rw [e1] at e
          cases e
          exact e2
      · exact plain z
    refine ⟨rfl, ⟨fun b o e => ?_, fun b o e => ?_⟩, os, bare⟩
    · by_cases hb : b ∈ cs.map (·.2)
      · obtain ⟨more, hmore⟩ := grown b hb
        rw [(tabs b hb).1] at e
        cases e
        obtain ⟨p, hp, rfl⟩ := List.mem_map.mp hb
        exact .inr (.inl ⟨((C p hp).tab (hT p hp)).isCodeTable, rfl, #[], more, rfl, by rw [Array.empty_append]; exact hmore⟩)
      · exact .inl (same b o hb e)
    · by_cases hb : b ∈ cs.map (·.2)
      · obtain ⟨more, hmore⟩ := grown b hb
        exact ⟨_, hmore⟩
      · exact ⟨o, same b o hb e⟩
end TBX

set_option Elab.async false
set_option linter.all false
set_option maxRecDepth 100000
set_option maxHeartbeats 4000000
namespace TBX
open PySem PySem.Spec PyProof.Rows L2 TB LamX NdefX
/-! ### the facts at the head's end, put together -/
theorem law_at {P : Program} {w : World} {K : PySem.W.Frag} {h : Heap} {mg : PySem.Str → Option Value} {fa : Addr} (X : K.In h) (G : h.Ns mainGlobals mg) (hmg : mg ("law" : PySem.Str) = some (.ref fa)) (c : He.SaysX fas fns [] tfs exB w h K) :
    ∃ fd : FuncData, (∀ (s : Shared) (v : Value), BindsTo s fd ⟨[v], []⟩ [("script", v)]) ∧ ∀ base : Heap, K.In base → base.Ns mainGlobals mg → (∀ p ∈ tfs.map (He.cT K), TabB base mg p.1 p.2) → FnG P w K mg base 4 fa fd ["script"] (spLaw K) := by
  have Z := facts_of c.more
  have cd : He.SaysD fas fns K := congrArg (fun z : He.AlT => z.1) c.t
  have g : ∀ (i : Nat) (x : PySem.Str), fas[i]? = some (.glo x) → mg x = some (.ref (He.ga K x)) := fun i x e => He.glo_ok X G (cd.fact i e)
  have n : ∀ (i : Nat) (x : PySem.Str), fas[i]? = some (.free x) → mg x = none := fun i x e => He.free_ok X G (cd.fact i e)
  obtain ⟨fdS, FS⟩ := cd.def_ 0 (d := d_law_start) rfl
  obtain ⟨fdW, FW⟩ := cd.def_ 1 (d := d_law_below) rfl
  obtain ⟨fdM, FM⟩ := cd.def_ 2 (d := d_law_mixed) rfl
  obtain ⟨fdA, FA⟩ := cd.def_ 3 (d := d_law_made_a) rfl
  obtain ⟨fdB, FB⟩ := cd.def_ 4 (d := d_law_made_b) rfl
  obtain ⟨fdC, FC⟩ := cd.def_ 5 (d := d_law_made_c) rfl
  obtain ⟨fd1, F1⟩ := cd.def_ 6 (d := d_law_kinds_a) rfl
  obtain ⟨fd2, F2⟩ := cd.def_ 7 (d := d_law_kinds_b) rfl
  obtain ⟨fd3, F3⟩ := cd.def_ 8 (d := d_law_kinds_c) rfl
  obtain ⟨fdK, FK⟩ := cd.def_ 9 (d := d_law_kinds) rfl
  obtain ⟨fdO, FO⟩ := cd.def_ 10 (d := d_law_is_own) rfl
  obtain ⟨fdT, FT⟩ := cd.def_ 11 (d := d_law_are_these) rfl
  obtain ⟨fd, F⟩ := cd.def_ 12 (d := dlaw) rfl
  have e := hmg.symm.trans (g 12 "law" rfl)
  cases e
  have hb := FunD.bindsA (ps := ["script"]) F fun _ _ _ _ _ _ us hl => match us, hl with | [_], _ => rfl
  refine ⟨fd, fun s v => hb s [v] rfl, fun base KB GB TB => ?_⟩
  have mC : ∀ i, i < 52 → mg (nm i) = some (.ref (Ci K i)) := fun i hi => PySem.W.mg_of X G (Z.row i hi).ns
  have mW : mg "WriteError" = some (.ref (Wb K)) := PySem.W.mg_of X G Z.base.ns
  have CA : ClsAll P w K mg base := clsAll Z mC fun i hi => by
    obtain ⟨fdi, Fi⟩ := cd.defs (d := dInit i) (List.mem_append_right _ (List.mem_map_of_mem hi))
    exact ⟨fdi, Fi⟩
  have kd (p : He.Defn) (hp : p ∈ tfs) : TabB base mg (He.cT K p).1 (He.cT K p).2 := TB _ (List.mem_map_of_mem hp)
  have bW : L2.Binds K fdW ["stream", "many"] [] := FW.bindsN fun _ _ _ _ _ _ us hl => match us, hl with | [_, _], _ => rfl
  have bS : L2.Binds K fdS ["script"] [] := FS.bindsN fun _ _ _ _ _ _ us hl => match us, hl with | [_], _ => rfl
  have bM : L2.Binds K fdM ["stream", "some"] [] := FM.bindsN fun _ _ _ _ _ _ us hl => match us, hl with | [_, _], _ => rfl
  have bA : L2.Binds K fdA ["x", "y", "z"] [] := FA.bindsN fun _ _ _ _ _ _ us hl => match us, hl with | [_, _, _], _ => rfl
  have bB : L2.Binds K fdB ["x", "y", "z"] [] := FB.bindsN fun _ _ _ _ _ _ us hl => match us, hl with | [_, _, _], _ => rfl
  have bC : L2.Binds K fdC ["x", "y", "z"] [] := FC.bindsN fun _ _ _ _ _ _ us hl => match us, hl with | [_, _, _], _ => rfl
  have b1 : L2.Binds K fd1 ["e"] [] := F1.bindsN fun _ _ _ _ _ _ us hl => match us, hl with | [_], _ => rfl
  have b2 : L2.Binds K fd2 ["e"] [] := F2.bindsN fun _ _ _ _ _ _ us hl => match us, hl with | [_], _ => rfl
  have b3 : L2.Binds K fd3 ["e"] [] := F3.bindsN fun _ _ _ _ _ _ us hl => match us, hl with | [_], _ => rfl
  have bK : L2.Binds K fdK ["e"] [] := FK.bindsN fun _ _ _ _ _ _ us hl => match us, hl with | [_], _ => rfl
  have bO : L2.Binds K fdO ["e", "at"] [] := FO.bindsN fun _ _ _ _ _ _ us hl => match us, hl with | [_, _], _ => rfl
  have bT : L2.Binds K fdT ["found", "due"] [] := FT.bindsN fun _ _ _ _ _ _ us hl => match us, hl with | [_, _], _ => rfl
  have mI := n 17 "isinstance" rfl
  have mR := n 15 "range" rfl
  have mV := n 20 "ValueError" rfl
  have GW := ok_below (P := P) (w := w) (base := base) FW (n 16 "int" rfl)
  have GS := ok_start (P := P) (w := w) (base := base) FS (n 13 "list" rfl)
  have GM := ok_mixed (P := P) (w := w) (base := base) FM (n 13 "list" rfl) (n 14 "len" rfl) mR (g 1 "_law_below" rfl) GW FW.kp bW
  have GA := ok_madeA Z CA FA (kd ("_law_made_a", none) (by decide))
  have GB2 := ok_madeB Z CA FB (kd ("_law_made_b", none) (by decide))
  have GC := ok_madeC Z CA FC (kd ("_law_made_c", none) (by decide))
  have G1 := ok_kindsA Z CA mI F1
  have G2 := ok_kindsB Z CA mI F2
  have G3 := ok_kindsC Z CA mI F3
  have GK := ok_kinds FK G1 G2 G3 (g 6 "_law_kinds_a" rfl) (g 7 "_law_kinds_b" rfl) (g 8 "_law_kinds_c" rfl) F1.kp F2.kp F3.kp b1 b2 b3
  have GO := ok_own Z FO GK (g 9 "_law_kinds" rfl) FK.kp bK mI mW mV (n 21 "LookupError" rfl) (n 22 "ArithmeticError" rfl) (n 23 "TypeError" rfl) mR
  have GT := ok_these (P := P) (w := w) (base := base) Z FT (n 18 "repr" rfl) (n 14 "len" rfl)
  exact ok_law Z F GS (g 0 "_law_start" rfl) FS.kp bS GM (g 2 "_law_mixed" rfl) FM.kp bM GA (g 3 "_law_made_a" rfl) FA.kp bA GB2 (g 4 "_law_made_b" rfl) FB.kp bB GC (g 5 "_law_made_c" rfl) FC.kp bC GO (g 10 "_law_is_own" rfl) FO.kp bO GT (g 11 "_law_are_these" rfl) FT.kp bT GK (g 9 "_law_kinds" rfl) FK.kp bK
    ⟨Z.base.T, mW, Z.base.i0 rfl⟩ mI mV mR (n 19 "enumerate" rfl)
end TBX

set_option Elab.async false
set_option linter.all false
set_option maxRecDepth 100000
set_option maxHeartbeats 0
namespace TBX
open PySem PySem.W PySem.Calls PyProof.Rows
theorem room4 : L2.Room 4 callerA := ⟨rfl, by decide, by decide⟩
theorem k00_walk : WalkO (view (OpenLaw.row PySem.Challenge.rw_tellback_k00_errors_made).prog [67]) looseN (XL (view (OpenLaw.row PySem.Challenge.rw_tellback_k00_errors_made).prog [67]) []) hookY.says (OpenLaw.row PySem.Challenge.rw_tellback_k00_errors_made).toRowW (HandSHeadRun.topDef (OpenLaw.row PySem.Challenge.rw_tellback_k00_errors_made).prog 67) [] fun f vs => PySem.call f vs := by
  refine Att.attach_callB (l := PySem.Challenge.rw_tellback_k00_errors_made) (n := 63) rfl (by kernel_rfl) fun w s₀ s₁ mg mb fa o pm cd doc a vs ns G Y ho hd hcd hmg0 hobj hints hlen hbits hg => ?_
  obtain ⟨K, KX, c⟩ := Y
  have hmg : mg ("law" : PySem.Str) = some (.ref fa) := by
    have e : (HandSHeadRun.topDef (OpenLaw.row PySem.Challenge.rw_tellback_k00_errors_made).prog 67).name = ("law" : PySem.Str) := by kernel_rfl
    rw [← e]
    exact hmg0
  obtain ⟨fd, hb, hF⟩ := law_at (P := (PySem.Challenge.rw_tellback_k00_errors_made).prog) (w := w) KX G.T.g hmg c
  refine law_end (cs := tfs.map (He.cT K)) KX G.T.g G.T.b G.T.builtins G.T.nolimit hg (fun p hp => ?_) (fun p hp => ?_) (fun p hp => ?_) G.T.bmain hobj hints (Nat.le_trans hlen (by decide)) room4 hF hb fun H hH hS => ⟨a, ns, rfl, hS, fun q hq => ?_, fun _ => rfl⟩
  · obtain ⟨q, hq, rfl⟩ := List.mem_map.mp hp
    exact c.empty q hq
  · obtain ⟨q, hq, rfl⟩ := List.mem_map.mp hp
    exact c.out q hq
  · obtain ⟨q, hq, rfl⟩ := List.mem_map.mp hp
    exact codeHd_of_K KX (c.hd q hq)
  · have e : ∃ p ∈ tfs.map (He.cT K), p.2 = q.1 := by
      simp only [TT, List.mem_cons, List.not_mem_nil, or_false] at hq
      rcases hq with rfl | rfl | rfl
      · exact ⟨_, List.mem_map_of_mem (show (("_law_made_a", none) : He.Defn) ∈ tfs by decide), rfl⟩
      · exact ⟨_, List.mem_map_of_mem (show (("_law_made_b", none) : He.Defn) ∈ tfs by decide), rfl⟩
      · exact ⟨_, List.mem_map_of_mem (show (("_law_made_c", none) : He.Defn) ∈ tfs by decide), rfl⟩
    obtain ⟨p, hp, e⟩ := e
    exact LamX.TabS.nil (by rw [← e]; exact hH p hp)
end TBX
open PySem PySem.W PySem.Calls PyProof.Rows
theorem PySem.Challenge.cw_tellback_k00_errors_made_holds : PySem.Challenge.rw_tellback_k00_errors_made.Holds := by
  w_on; o_law
  refine HandSHeadRun.head_any (r := OpenLaw.row PySem.Challenge.rw_tellback_k00_errors_made) (q := view (OpenLaw.row PySem.Challenge.rw_tellback_k00_errors_made).prog [67]) (H := TBX.hookY) (ob := TBX.obY) (M := 14000) (loose := TBX.looseN) (d := HandSHeadRun.topDef (OpenLaw.row PySem.Challenge.rw_tellback_k00_errors_made).prog 67) (kwd := []) TBX.obY_eq
    (by kernel_rfl) (fun s => by kernel_rfl) TBX.runY (by kernel_rfl) (by kernel_rfl) (by kernel_rfl) (by rfl) (by first | assumption | decide +kernel) (by decide +kernel) ⟨rfl, rfl, rfl, rfl, rfl, by decide +kernel⟩ ?hw TBX.k00_walk
  case hw => w_witness2
