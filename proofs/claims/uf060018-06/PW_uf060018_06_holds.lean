import PyProof.Rows.All
import Wide.All
import OpenK.AllK
import Wide.FinOn
import OpenK.KOwn
import OpenK.KMore
import KE.KSliceW
import KE.KSorted
import KE.KItem
import KE.KIsAll
import KE.KTryMore
import KE.FramesApart
import KE.KEqDeep
import PySem.Challenge.RW_uf060018_06
open PySem PySem.W PyProof.Rows
set_option Elab.async false
set_option maxRecDepth 100000
set_option maxHeartbeats 8000000
set_option linter.unusedVariables false
set_option linter.unusedSimpArgs false
namespace Mine
noncomputable def view : Program := { PySem.Challenge.rw_uf060018_06.row.prog with main := { PySem.Challenge.rw_uf060018_06.row.prog.main with body := (((((PySem.Challenge.rw_uf060018_06.row.prog.main.body.eraseIdx 23).eraseIdx 14).eraseIdx 11).eraseIdx 4).eraseIdx 1) } }
/-- the top's run over a tree of objects -/
noncomputable def runT (ok : Thread → Bool) (st : SharedT → Thread → Option (SharedT × Thread)) (n : Nat) : SharedT → Thread → Option SharedT :=
  @Nat.rec (fun _ => SharedT → Thread → Option SharedT) (fun _ _ => none) (fun _ ih s t => @Bool.rec (fun _ => Option SharedT) (@Bool.rec (fun _ => Option SharedT) none (@Option.rec (SharedT × Thread) (fun _ => Option SharedT) none (fun r => ih r.1 r.2) (st s t)) (ok t)) (some s) (through t)) n
theorem runT_of {tb : String → Option Builtin} {p : Program} {w : World} {n₀ : Nat} {ann : Option Value} : ∀ {n : Nat} {s s' : SharedT} {t : Thread}, runT (stepOk n₀ ann) (stepT (denote tb) p w) n s t = some s' → topRun tb p w n₀ ann n s.abs t = some s'.abs
  | 0, _, _, _, h => by cases h
  | n + 1, s, s', t, h => by
    have e : runT (stepOk n₀ ann) (stepT (denote tb) p w) (n + 1) s t = @Bool.rec (fun _ => Option SharedT) (@Bool.rec (fun _ => Option SharedT) none (@Option.rec (SharedT × Thread) (fun _ => Option SharedT) none (fun r => runT (stepOk n₀ ann) (stepT (denote tb) p w) n r.1 r.2) (stepT (denote tb) p w s t)) (stepOk n₀ ann t)) (some s) (through t) := rfl
    rw [e] at h
    unfold topRun
    cases ht : through t with
    | true => rw [ht] at h; cases h; rfl
    | false =>
      rw [ht] at h
      cases hk : stepOk n₀ ann t with
      | false => rw [hk] at h; cases h
      | true =>
        rw [hk] at h
        cases hs : stepT (denote tb) p w s t with
        | none => rw [hs] at h; cases h
        | some r => obtain ⟨s₂, t₂⟩ := r; rw [hs] at h; dsimp only; rw [stepT_spec hs]; exact runT_of h
/-- a tree of a list of objects -/
noncomputable def grow (l : List Obj) : BT → Nat → Option BT :=
  @List.rec Obj (fun _ => BT → Nat → Option BT) (fun t _ => some t) (fun o _ ih t n => @Bool.rec (fun _ => Option BT) none (ih (t.ins n o) (Nat.succ n)) ((t.ins n o).get n).isSome) l
theorem grow_of {life : Life} : ∀ {l : List Obj} {t t' : BT} {n : Nat}, grow l t n = some t' → absHeap t' (n + l.length) life = ⟨((absHeap t n life).objs.toList ++ l).toArray, life⟩
  | [], t, t', n, h => by
    cases h
    show absHeap t n life = _
    rw [List.append_nil, Array.toArray_toList]; rfl
  | o :: l, t, t', n, h => by
    have e : grow (o :: l) t n = @Bool.rec (fun _ => Option BT) none (grow l (t.ins n o) (Nat.succ n)) ((t.ins n o).get n).isSome := rfl
    rw [e] at h
    cases hs : ((t.ins n o).get n).isSome with
    | false => rw [hs] at h; cases h
    | true =>
      rw [hs] at h
      have := grow_of (life := life) h
      rw [show n + (o :: l).length = Nat.succ n + l.length by simp; omega, this]
      rw [show Nat.succ n = n + 1 from rfl, absHeap_ins hs]
      simp [Heap.push, absHeap]
/-- the top's run, and what is seen behind it -/
noncomputable def runAll {β : Type} (ok : Nat → Option Value → Thread → Bool) (st : SharedT → Thread → Option (SharedT × Thread)) (p : Program) (N : Nat) (good : Heap → Heap → Shared → Bool) (looks : Shared → β) (h : Heap) (d : Drawn) (k : Nat) (os : OsState) : Option β :=
  @Option.rec BT (fun _ => Option β) none (fun T => @Option.rec SharedT (fun _ => Option β) none (fun s1 => (fun s : Shared => @Bool.rec (fun _ => Option β) none (some (looks s)) (good h s.heap s)) s1.abs) (runT (ok h.objs.size (h.nsMap mainGlobals "__annotations__")) st N ⟨T, h.objs.size, h.life, Array.mk [], d, k, os⟩ (topStub p))) (grow h.objs.toList .nil 0)
theorem runAll_of {β : Type} {tb : String → Option Builtin} {p : Program} {w : World} {N : Nat} {looks : Shared → β} {h : Heap} {d : Drawn} {k : Nat} {os : OsState} {x : β} (h0 : h.isNs mainGlobals = true)
    (e : runAll stepOk (stepT (denote tb) p w) p N (fun h0 h1 s => staticsOk (importedModules p.main.body) h0 h1 && namesBound p h1 && gensDone s && laidKept h0 h1) looks h d k os = some x) : (topFrom tb p w N ⟨h, Array.mk [], d, k, os⟩).map looks = some x := by
  unfold runAll at e
  cases hT : grow h.objs.toList .nil 0 with
  | none => rw [hT] at e; cases e
  | some T =>
    rw [hT] at e
    dsimp only at e
    cases hR : runT (stepOk h.objs.size (h.nsMap mainGlobals "__annotations__")) (stepT (denote tb) p w) N ⟨T, h.objs.size, h.life, Array.mk [], d, k, os⟩ (topStub p) with
    | none => rw [hR] at e; cases e
    | some s1 =>
      rw [hR] at e
      dsimp only at e
      have hr := runT_of hR
      have ha : (SharedT.mk T h.objs.size h.life (Array.mk []) d k os).abs = ⟨h, Array.mk [], d, k, os⟩ := by
        have := grow_of (life := h.life) hT
        unfold SharedT.abs
        dsimp only
        rw [show 0 + h.objs.toList.length = h.objs.size by simp] at this
        rw [this]
        cases h; simp [absHeap, BT.list]
      rw [ha] at hr
      unfold topFrom
      dsimp only
      rw [h0, hr]
      dsimp only [Option.bind]
      cases hg : (staticsOk (importedModules p.main.body) h s1.abs.heap && namesBound p s1.abs.heap && gensDone s1.abs && laidKept h s1.abs.heap) with
      | false => rw [hg] at e; cases e
      | true => rw [hg] at e; simpa using e
theorem left_boot {p q : Program} {loose : List Str} {Xt : Shared → Bool} {α : Type} {Yf : Shared → α} {Ya : World → α} {N : Nat} (e : opening p = plainProg p.main.scope.names) (hN : Nat.ble 600 N = true) (f : ∀ s, fenceModules? p s = some s)
    (h : ∀ (w : World) (os : OsState), runAll stepOk (stepT (denote treeTable) p w) p N (fun h0 h1 s => staticsOk (importedModules p.main.body) h0 h1 && namesBound p h1 && gensDone s && laidKept h0 h1) (fun s => (openSeen q loose (importedModules p.main.body) Xt true s, Yf s)) (boot_heap w.params) boot_drawn boot_toks os = some (openGood q loose, Ya w)) : LeftO p q loose Xt Yf Ya N := fun w => by
  obtain ⟨⟨hp, gs, d, k, os⟩, e1, e2⟩ := Option.map_eq_some_iff.mp (boot_open e hN f w)
  obtain ⟨rfl, rfl, rfl, rfl⟩ : hp = boot_heap w.params ∧ gs = Array.mk [] ∧ d = boot_drawn ∧ k = boot_toks := by simpa using e2
  unfold openEnds
  rw [e1]
  exact runAll_of (by kernel_rfl) (h w os)
theorem said : PySem.Challenge.rw_uf060018_06.wellSaid = true := by
  delta OpenLaw.wellSaid
  all_goals with_reducible (repeat' refine look_both ?_ ?_)
  all_goals try delta OpenRow.wellSaid
  all_goals with_reducible (repeat' refine look_both ?_ ?_)
  all_goals try delta OpenRow.partSaid
  all_goals with_reducible (repeat' refine look_both ?_ ?_)
  all_goals try delta looksOpen
  all_goals with_reducible (repeat' refine look_both ?_ ?_)
  all_goals try rw [PySem.W.Fast.te8377067652309620493]
  all_goals try rw [PySem.W.Fast.te8326940854005059898]
  all_goals try rw [PySem.W.Fast.te17119622794617984870]
  all_goals try rw [PySem.W.Fast.te8179353310426384613]
  all_goals try rw [PySem.W.Fast.te6984425678791042302]
  all_goals try rw [PySem.W.Fast.te797321630700447069]
  all_goals try rw [PySem.W.Fast.te13343964577679436407]
  all_goals try rw [PySem.W.Fast.te17691160309236699985]
  all_goals try rw [PySem.W.Fast.te16286561074155671207]
  all_goals try rw [PySem.W.Fast.te10792542408131684335]
  all_goals try rw [PySem.W.Fast.te5923862056798008813]
  all_goals decide +kernel
theorem lawHead (h : PySem.Challenge.rw_uf060018_06.row.wellSaid = true → PySem.Challenge.rw_uf060018_06.row.Holds) : PySem.Challenge.rw_uf060018_06.Holds := holds_law said h
theorem head {d : DefRec} {kwd : List (Str × Expr)} (H : Hook) (k1 : PySem.Challenge.rw_uf060018_06.row.wellSaid = true) (hl : ∀ (w : World) (os : OsState), runAll stepOk (stepT (denote treeTable) PySem.Challenge.rw_uf060018_06.row.prog w) PySem.Challenge.rw_uf060018_06.row.prog 6000 (fun h0 h1 s => staticsOk (importedModules PySem.Challenge.rw_uf060018_06.row.prog.main.body) h0 h1 && namesBound PySem.Challenge.rw_uf060018_06.row.prog h1 && gensDone s && laidKept h0 h1) (fun s => (openSeen view [] (importedModules PySem.Challenge.rw_uf060018_06.row.prog.main.body) (fun s => xlAt view [] s && recOk (RowW.records (OpenRow.toRowW PySem.Challenge.rw_uf060018_06.row)) s) true s, H.obs s)) (boot_heap w.params) boot_drawn boot_toks os = some (openGood view [], H.val w))
    (hdef : defOf view PySem.Challenge.rw_uf060018_06.row.name = some (d, kwd)) (hp : PySem.Challenge.rw_uf060018_06.row.prog.theDef PySem.Challenge.rw_uf060018_06.row.name = some (d.params, d.body, d.scope)) (hk : kwWritten? d.params.kwonlyargs d.params.kw_defaults = some kwd)
    (hw : PySem.Challenge.rw_uf060018_06.row.toRowW.promised) (hc : WalkO view [] (XL view []) H.says PySem.Challenge.rw_uf060018_06.row.toRowW d kwd fun f vs => PySem.call f vs) : PySem.Challenge.rw_uf060018_06.row.Holds :=
  holds_open (left_boot (by kernel_rfl) (by decide) (fun s => rfl) hl) H.of H.keeps (fun s e => xl_of s (Bool.and_eq_true_iff.mp e).1) XL.keeps hdef hp hk (fun s e => recFacts_of (Bool.and_eq_true_iff.mp e).2) (by rfl) k1 (by decide +kernel) ⟨rfl, rfl, rfl, rfl, rfl, by decide +kernel⟩ hw hc
local macro_rules | `(tactic| o_law) => `(tactic| refine lawHead fun _ => ?_)
local macro_rules | `(tactic| o_head $H) => `(tactic| apply head $H (by assumption) (fun _ _ => by rw [PySem.W.Fast.te10156331382660048174, PySem.W.Fast.te6613529449190102663, PySem.W.Fast.te11892475500146522536, PySem.W.Fast.te14364793385576792824, PySem.W.Fast.te4187177175401517315]; kernel_rfl) rfl rfl rfl)
open_top hd for PySem.Challenge.rw_uf060018_06
end Mine
section
namespace Mine

/-- coprime, by Bezout -/
noncomputable def Cop (a b : Int) : Prop := ∃ u v : Int, u * a + v * b = 1

theorem Cop.symm {a b : Int} (h : Cop a b) : Cop b a := by
  obtain ⟨u, v, e⟩ := h; exact ⟨v, u, by omega⟩
theorem Cop.mul_right {a b c : Int} (h : Cop a b) (k : Cop a c) : Cop a (b * c) := by
  obtain ⟨u, v, e⟩ := h; obtain ⟨x, y, f⟩ := k
  exact ⟨u * x * a + u * y * c + v * b * x, v * y, by grind⟩
theorem Cop.mul_left {a b c : Int} (h : Cop a c) (k : Cop b c) : Cop (a * b) c := (h.symm.mul_right k.symm).symm
theorem Cop.one_right (a : Int) : Cop a 1 := ⟨0, 1, by omega⟩
theorem Cop.of_dvd_right {a b c : Int} (h : Cop a b) (d : c ∣ b) : Cop a c := by
  obtain ⟨u, v, e⟩ := h; obtain ⟨k, rfl⟩ := d; exact ⟨u, v * k, by grind⟩
theorem Cop.dvd_of_dvd_mul {a b c : Int} (h : Cop a b) (d : a ∣ b * c) : a ∣ c := by
  obtain ⟨u, v, e⟩ := h; obtain ⟨k, hk⟩ := d
  exact ⟨u * c + v * k, by grind⟩
theorem Cop.mul_dvd {a b c : Int} (h : Cop a b) (d1 : a ∣ c) (d2 : b ∣ c) : a * b ∣ c := by
  obtain ⟨k, rfl⟩ := d2
  obtain ⟨l, rfl⟩ := h.dvd_of_dvd_mul d1
  exact ⟨l, by grind⟩
theorem Cop.pow_right {a b : Int} (h : Cop a b) : ∀ n : Nat, Cop a (b ^ n)
  | 0 => by rw [Int.pow_zero]; exact .one_right a
  | n + 1 => by rw [Int.pow_succ]; exact (h.pow_right n).mul_right h
theorem bezout_nat : ∀ a b : Nat, ∃ u v : Int, u * a + v * b = (Nat.gcd a b : Int) := by
  intro a
  induction a using Nat.strongRecOn with
  | ind a ih =>
    intro b
    by_cases ha : a = 0
    · subst ha; exact ⟨0, 1, by simp⟩
    · obtain ⟨u, v, e⟩ := ih (b % a) (Nat.mod_lt _ (Nat.pos_of_ne_zero ha)) a
      rw [Nat.gcd_rec a b, ← e]
      refine ⟨v - u * ((b / a : Nat) : Int), u, ?_⟩
      have h : (b : Int) = (a : Int) * ((b / a : Nat) : Int) + ((b % a : Nat) : Int) := by
        exact_mod_cast (Nat.div_add_mod b a).symm
      generalize ((b / a : Nat) : Int) = q at *
      generalize ((b % a : Nat) : Int) = r at *
      rw [h]; grind
theorem cop_of_gcd {a b : Nat} (h : Nat.gcd a b = 1) : Cop a b := by
  obtain ⟨u, v, e⟩ := bezout_nat a b; exact ⟨u, v, by rw [e, h]; rfl⟩
theorem gcd_of_cop {a b : Nat} (h : Cop a b) : Nat.gcd a b = 1 := by
  obtain ⟨u, v, e⟩ := h
  obtain ⟨k, hk⟩ := Nat.gcd_dvd_left a b
  obtain ⟨l, hl⟩ := Nat.gcd_dvd_right a b
  have hk' : (a : Int) = (Nat.gcd a b : Int) * k := by exact_mod_cast hk
  have hl' : (b : Int) = (Nat.gcd a b : Int) * l := by exact_mod_cast hl
  have : (Nat.gcd a b : Int) ∣ 1 := ⟨u * k + v * l, by rw [← e]; generalize (Nat.gcd a b : Int) = g at *; rw [hk', hl']; grind⟩
  have h1 : Nat.gcd a b ∣ 1 := by exact_mod_cast this
  exact Nat.dvd_one.mp h1

theorem cop_prod {a : Int} : ∀ {l : List Int}, (∀ b ∈ l, Cop a b) → Cop a l.prod
  | [], _ => by rw [List.prod_nil]; exact .one_right a
  | b :: l, h => by
    rw [List.prod_cons]
    exact (h b (.head _)).mul_right (cop_prod fun c hc => h c (.tail _ hc))
theorem prod_dvd {x : Int} : ∀ {l : List Int}, l.Pairwise Cop → (∀ b ∈ l, b ∣ x) → l.prod ∣ x
  | [], _, _ => by rw [List.prod_nil]; exact Int.one_dvd x
  | b :: l, hp, h => by
    rw [List.prod_cons]
    obtain ⟨h1, h2⟩ := List.pairwise_cons.mp hp
    exact (cop_prod h1).mul_dvd (h b (.head _)) (prod_dvd h2 fun c hc => h c (.tail _ hc))
theorem eq_of_dvd_sub {x y P : Int} (hx : 0 ≤ x) (hx' : x < P) (hy : 0 ≤ y) (hy' : y < P) (h : P ∣ x - y) : x = y := by
  obtain ⟨k, hk⟩ := h
  have h1 : k < 1 := by
    apply Int.lt_of_not_ge; intro hk1
    have : P * 1 ≤ P * k := Int.mul_le_mul_of_nonneg_left hk1 (by omega)
    omega
  have h2 : -1 < k := by
    apply Int.lt_of_not_ge; intro hk1
    have : P * k ≤ P * (-1) := Int.mul_le_mul_of_nonneg_left hk1 (by omega)
    omega
  have : k = 0 := by omega
  subst this; omega
/-- two numbers below the product of coprime bases that agree over them are one -/
theorem agree {x y : Int} {l : List Int} (hp : l.Pairwise Cop) (hx : 0 ≤ x) (hx' : x < l.prod) (hy : 0 ≤ y) (hy' : y < l.prod) (h : ∀ b ∈ l, x % b = y % b) : x = y := by
  refine eq_of_dvd_sub hx hx' hy hy' (prod_dvd hp fun b hb => ?_)
  exact Int.dvd_of_emod_eq_zero (Int.emod_eq_emod_iff_emod_sub_eq_zero.mp (h b hb))

theorem prod_pos : ∀ {l : List Int}, (∀ b ∈ l, 0 < b) → 0 < l.prod
  | [], _ => by simp
  | b :: l, h => by
    rw [List.prod_cons]
    exact Int.mul_pos (h b (.head _)) (prod_pos fun c hc => h c (.tail _ hc))

/-- the number of figures over bases -/
noncomputable def whole : List Int → List Int → Int
  | f :: fs, b :: bs => f + b * whole fs bs
  | _, _ => 0
noncomputable def digits : Int → List Int → List Int
  | _, [] => []
  | x, b :: bs => x % b :: digits (x / b) bs
theorem digits_length : ∀ (bs : List Int) (x : Int), (digits x bs).length = bs.length
  | [], _ => rfl
  | b :: bs, x => by rw [digits, List.length_cons, digits_length bs, List.length_cons]
theorem digits_get : ∀ (bs : List Int) (x : Int) (k : Nat), (∀ b ∈ bs, 0 < b) → ∀ (h : k < bs.length), (digits x bs)[k]? = some (x / (bs.take k).prod % bs[k])
  | [], _, _, _, h => by simp at h
  | b :: bs, x, 0, _, _ => by simp [digits]
  | b :: bs, x, k + 1, hp, h => by
    have h' : k < bs.length := by simpa using h
    have := digits_get bs (x / b) k (fun c hc => hp c (.tail _ hc)) h'
    simp only [digits, List.getElem?_cons_succ, this, List.take_succ_cons, List.prod_cons, List.getElem_cons_succ]
    rw [Int.ediv_ediv_of_nonneg (Int.le_of_lt (hp b (.head _)))]
theorem whole_digits_take : ∀ (bs : List Int) (x : Int) (k : Nat), (∀ b ∈ bs, 0 < b) → whole ((digits x bs).take k) (bs.take k) = x % (bs.take k).prod
  | [], x, k, _ => by simp [digits, whole, Int.emod_one]
  | b :: bs, x, 0, _ => by simp [whole, Int.emod_one]
  | b :: bs, x, k + 1, hp => by
    have ih := whole_digits_take bs (x / b) k (fun c hc => hp c (.tail _ hc))
    simp only [digits, List.take_succ_cons, whole, ih, List.prod_cons]
    have hb : 0 < b := hp b (.head _)
    have hP : 0 < (bs.take k).prod := prod_pos fun c hc => hp c (.tail _ (List.mem_of_mem_take hc))
    generalize (bs.take k).prod = P at *
    -- x % (b * P) = x % b + b * (x / b % P)
    have e1 := Int.emod_add_mul_ediv x (b * P)
    have e2 := Int.emod_add_mul_ediv x b
    have e3 := Int.emod_add_mul_ediv (x / b) P
    rw [← Int.ediv_ediv_of_nonneg (Int.le_of_lt hb)] at e1
    generalize x / b / P = q at *
    generalize x / b = y at *
    grind
theorem whole_digits {bs : List Int} {x : Int} (hp : ∀ b ∈ bs, 0 < b) (h0 : 0 ≤ x) (h1 : x < bs.prod) : whole (digits x bs) bs = x := by
  have := whole_digits_take bs x bs.length hp
  rw [List.take_of_length_le (by rw [digits_length]; exact Nat.le_refl _), List.take_of_length_le (Nat.le_refl _)] at this
  rw [this, Int.emod_eq_of_lt h0 h1]
/-- one step of the reckoning of figures -/
theorem figure_step {x r b P inv : Int} (hb : 0 < b) (hr : (x - r) % b = 0) (hi : inv * (P % b) % b = 1 % b) : (r - x % P) % b * inv % b = x / P % b := by
  have hP := Int.emod_add_mul_ediv x P
  rw [Int.emod_eq_emod_iff_emod_sub_eq_zero]
  apply Int.emod_eq_zero_of_dvd
  obtain ⟨k, hk⟩ := Int.dvd_of_emod_eq_zero hr
  have h1 := Int.emod_add_mul_ediv (r - x % P) b
  have h2 := Int.emod_add_mul_ediv P b
  obtain ⟨l, hl⟩ := Int.dvd_of_emod_eq_zero (Int.emod_eq_emod_iff_emod_sub_eq_zero.mp hi)
  generalize (r - x % P) / b = q1 at *
  generalize (r - x % P) % b = m1 at *
  generalize x % P = lo at *
  generalize x / P = hi' at *
  generalize P / b = q2 at *
  generalize P % b = m2 at *
  refine ⟨-(k * inv) - q1 * inv + hi' * q2 * inv + hi' * l, ?_⟩
  grind
end Mine
end
section
namespace Mine

/-- bases that figures can be reckoned over -/
structure BOk (bs : List Int) : Prop where
  rng : ∀ b ∈ bs, 3 ≤ b ∧ b ≤ 999999
  cop : bs.Pairwise Cop
theorem BOk.pos {bs : List Int} (h : BOk bs) : ∀ b ∈ bs, 0 < b := fun b hb => by have := h.rng b hb; omega
theorem BOk.sub {bs cs : List Int} (h : BOk bs) (s : cs.Sublist bs) : BOk cs := ⟨fun b hb => h.rng b (s.subset hb), h.cop.sublist s⟩
theorem BOk.prod_pos {bs : List Int} (h : BOk bs) : 0 < bs.prod := Mine.prod_pos h.pos

/-- x has the rests row over bs -/
noncomputable def Res (x : Int) : List Int → List Int → Prop
  | [], [] => True
  | r :: rs, b :: bs => (x - r) % b = 0 ∧ Res x rs bs
  | _, _ => False
theorem Res.length {x : Int} : ∀ {row bs : List Int}, Res x row bs → row.length = bs.length
  | [], [], _ => rfl
  | _ :: _, _ :: _, h => by simp [Res.length h.2]
theorem Res.get {x : Int} : ∀ {row bs : List Int}, Res x row bs → ∀ {k : Nat} {r b : Int}, row[k]? = some r → bs[k]? = some b → (x - r) % b = 0
  | [], [], _, k, r, b, h, _ => by simp at h
  | r' :: rs, b' :: bs, h, 0, r, b, hr, hb => by
    simp only [List.getElem?_cons_zero, Option.some.injEq] at hr hb; subst hr hb; exact h.1
  | _ :: _, _ :: _, h, k + 1, r, b, hr, hb => h.2.get (by simpa using hr) (by simpa using hb)
theorem Res.of_get {x : Int} : ∀ {row bs : List Int}, row.length = bs.length → (∀ (k : Nat) (r b : Int), row[k]? = some r → bs[k]? = some b → (x - r) % b = 0) → Res x row bs
  | [], [], _, _ => trivial
  | [], _ :: _, h, _ => by simp at h
  | _ :: _, [], h, _ => by simp at h
  | r :: rs, b :: bs, h, g => ⟨g 0 r b rfl rfl, Res.of_get (by simpa using h) fun k r' b' hr hb => g (k + 1) r' b' (by simpa using hr) (by simpa using hb)⟩
theorem Res.of_dvd {x y : Int} : ∀ {row bs : List Int}, Res x row bs → (∀ b ∈ bs, (y - x) % b = 0) → Res y row bs
  | [], [], _, _ => trivial
  | r :: rs, b :: bs, h, g => by
    refine ⟨?_, h.2.of_dvd fun c hc => g c (.tail _ hc)⟩
    have h1 := Int.dvd_of_emod_eq_zero h.1
    have h2 := Int.dvd_of_emod_eq_zero (g b (.head _))
    apply Int.emod_eq_zero_of_dvd
    have : y - r = (y - x) + (x - r) := by omega
    rw [this]; exact Int.dvd_add h2 h1
noncomputable def rowOf (x : Int) (bs : List Int) : List Int := bs.map (x % ·)
theorem rowOf_length (x : Int) (bs : List Int) : (rowOf x bs).length = bs.length := by simp [rowOf]
theorem res_rowOf (x : Int) : ∀ bs : List Int, Res x (rowOf x bs) bs
  | [] => trivial
  | b :: bs => ⟨by show (x - x % b) % b = 0; apply Int.emod_eq_zero_of_dvd; exact ⟨x / b, by have := Int.emod_add_mul_ediv x b; omega⟩, res_rowOf x bs⟩
/-- the number of a row -/
structure IsCrt (row bs : List Int) (x : Int) : Prop where
  lo : 0 ≤ x
  hi : x < bs.prod
  res : Res x row bs
theorem crt_exists : ∀ (bs row : List Int), BOk bs → row.length = bs.length → ∃ x, IsCrt row bs x
  | [], [], _, _ => ⟨0, Int.le_refl _, by simp, trivial⟩
  | [], _ :: _, _, h => by simp at h
  | _ :: _, [], _, h => by simp at h
  | b :: bs, r :: rs, ok, h => by
    have okt : BOk bs := ok.sub (List.sublist_cons_self b bs)
    obtain ⟨x', hx'⟩ := crt_exists bs rs okt (by simpa using h)
    obtain ⟨u, v, e⟩ := cop_prod (List.pairwise_cons.mp ok.cop).1
    have hP : 0 < bs.prod := okt.prod_pos
    have hb : 0 < b := ok.pos b (.head _)
    have hbP : 0 < b * bs.prod := Int.mul_pos hb hP
    refine ⟨(x' * (u * b) + r * (v * bs.prod)) % (b * bs.prod), Int.emod_nonneg _ (by omega), ?_, ?_, ?_⟩
    · rw [List.prod_cons]; exact Int.emod_lt_of_pos _ hbP
    · have h1 := Int.emod_add_mul_ediv (x' * (u * b) + r * (v * bs.prod)) (b * bs.prod)
      generalize (x' * (u * b) + r * (v * bs.prod)) / (b * bs.prod) = q at *
      generalize (x' * (u * b) + r * (v * bs.prod)) % (b * bs.prod) = m at *
      apply Int.emod_eq_zero_of_dvd
      refine ⟨x' * u - r * u - bs.prod * q, ?_⟩
      generalize bs.prod = P at *
      grind
    · refine hx'.res.of_dvd fun c hc => ?_
      have h1 := Int.emod_add_mul_ediv (x' * (u * b) + r * (v * bs.prod)) (b * bs.prod)
      generalize (x' * (u * b) + r * (v * bs.prod)) / (b * bs.prod) = q at *
      generalize (x' * (u * b) + r * (v * bs.prod)) % (b * bs.prod) = m at *
      have hcd : c ∣ bs.prod := by
        obtain ⟨s, t, rfl⟩ := List.append_of_mem hc
        rw [List.prod_append, List.prod_cons]
        exact ⟨s.prod * t.prod, by grind⟩
      apply Int.emod_eq_zero_of_dvd
      refine Int.dvd_trans hcd ⟨r * v - x' * v - b * q, ?_⟩
      generalize bs.prod = P at *
      grind
theorem emod_eq_of_sub {x r b : Int} (h : (x - r) % b = 0) : x % b = r % b := Int.emod_eq_emod_iff_emod_sub_eq_zero.mpr h
theorem crt_unique {row bs : List Int} {x y : Int} (ok : BOk bs) (hx : IsCrt row bs x) (hy : IsCrt row bs y) : x = y := by
  refine agree ok.cop hx.lo hx.hi hy.lo hy.hi fun b hb => ?_
  obtain ⟨k, hk⟩ := List.mem_iff_getElem?.mp hb
  have hkl : k < row.length := by rw [hx.res.length]; exact (List.getElem?_eq_some_iff.mp hk).1
  have hr : row[k]? = some row[k] := List.getElem?_eq_getElem hkl
  rw [emod_eq_of_sub (hx.res.get hr hk), emod_eq_of_sub (hy.res.get hr hk)]
noncomputable def crt (row bs : List Int) : Int := open Classical in if h : ∃ x, IsCrt row bs x then h.choose else 0
theorem crt_is {row bs : List Int} (ok : BOk bs) (hl : row.length = bs.length) : IsCrt row bs (crt row bs) := by
  have h := crt_exists bs row ok hl
  unfold crt; rw [dif_pos h]; exact h.choose_spec
theorem crt_eq {row bs : List Int} {x : Int} (ok : BOk bs) (hx : IsCrt row bs x) : crt row bs = x := crt_unique ok (crt_is ok hx.res.length) hx
theorem isCrt_rowOf {x : Int} {bs : List Int} (h0 : 0 ≤ x) (h1 : x < bs.prod) : IsCrt (rowOf x bs) bs x := ⟨h0, h1, res_rowOf x bs⟩
theorem crt_rowOf {x : Int} {bs : List Int} (ok : BOk bs) (h0 : 0 ≤ x) (h1 : x < bs.prod) : crt (rowOf x bs) bs = x := crt_eq ok (isCrt_rowOf h0 h1)

/-- rests of a row, each below its base -/
noncomputable def Rests : List Int → List Int → Prop
  | [], [] => True
  | r :: rs, b :: bs => (0 ≤ r ∧ r < b) ∧ Rests rs bs
  | _, _ => False
theorem Rests.length : ∀ {row bs : List Int}, Rests row bs → row.length = bs.length
  | [], [], _ => rfl
  | _ :: _, _ :: _, h => by simp [Rests.length h.2]
theorem Rests.get : ∀ {row bs : List Int}, Rests row bs → ∀ {k : Nat} {r b : Int}, row[k]? = some r → bs[k]? = some b → 0 ≤ r ∧ r < b
  | [], [], _, k, r, b, h, _ => by simp at h
  | r' :: rs, b' :: bs, h, 0, r, b, hr, hb => by
    simp only [List.getElem?_cons_zero, Option.some.injEq] at hr hb; subst hr hb; exact h.1
  | _ :: _, _ :: _, h, k + 1, r, b, hr, hb => Rests.get h.2 (by simpa using hr) (by simpa using hb)
theorem Rests.of_get : ∀ {row bs : List Int}, row.length = bs.length → (∀ (k : Nat) (r b : Int), row[k]? = some r → bs[k]? = some b → 0 ≤ r ∧ r < b) → Rests row bs
  | [], [], _, _ => trivial
  | [], _ :: _, h, _ => by simp at h
  | _ :: _, [], h, _ => by simp at h
  | r :: rs, b :: bs, h, g => ⟨g 0 r b rfl rfl, Rests.of_get (by simpa using h) fun k r' b' hr hb => g (k + 1) r' b' (by simpa using hr) (by simpa using hb)⟩
theorem rests_rowOf (x : Int) : ∀ {bs : List Int}, (∀ b ∈ bs, 0 < b) → Rests (rowOf x bs) bs
  | [], _ => trivial
  | b :: bs, h => ⟨⟨Int.emod_nonneg _ (by have := h b (.head _); omega), Int.emod_lt_of_pos _ (h b (.head _))⟩, rests_rowOf x fun c hc => h c (.tail _ hc)⟩
/-- products over a rising list -/
theorem prod_take_le {a : Int} : ∀ {l : List Int}, (∀ b ∈ l, a ≤ b) → (∀ b ∈ l, 0 < b) → ∀ m : Nat, m + 1 ≤ l.length → a * (l.take m).prod ≤ (l.take (m + 1)).prod := by
  intro l h hp m hm
  have hml : m < l.length := hm
  rw [List.take_succ_eq_append_getElem hml, List.prod_append, List.prod_singleton, Int.mul_comm]
  exact Int.mul_le_mul_of_nonneg_left (h _ (List.getElem_mem hml)) (Int.le_of_lt (prod_pos fun b hb => hp b (List.mem_of_mem_take hb)))
theorem prod_take_le_sublist : ∀ {l s : List Int}, l.Pairwise (· < ·) → (∀ b ∈ l, 0 < b) → s.Sublist l → (l.take s.length).prod ≤ s.prod := by
  intro l s hr hp hs
  induction hs with
  | slnil => simp
  | @cons s l a hs ih =>
    obtain ⟨h1, h2⟩ := List.pairwise_cons.mp hr
    have ih' := ih h2 fun b hb => hp b (.tail _ hb)
    cases hl : s.length with
    | zero => have : s = [] := List.length_eq_zero_iff.mp hl; subst this; simp
    | succ m =>
      rw [List.take_succ_cons, List.prod_cons]
      rw [hl] at ih'
      have hm : m + 1 ≤ l.length := by rw [← hl]; exact hs.length_le
      exact Int.le_trans (prod_take_le (fun b hb => Int.le_of_lt (h1 b hb)) (fun b hb => hp b (.tail _ hb)) m hm) ih'
  | @cons_cons s l a hs ih =>
    obtain ⟨h1, h2⟩ := List.pairwise_cons.mp hr
    have ih' := ih h2 fun b hb => hp b (.tail _ hb)
    rw [List.length_cons, List.take_succ_cons, List.prod_cons, List.prod_cons]
    exact Int.mul_le_mul_of_nonneg_left ih' (Int.le_of_lt (hp a (.head _)))

/-- bases as the document tells them -/
structure Good (bs : List Int) : Prop where
  len : 3 ≤ bs.length ∧ bs.length ≤ 14
  rng : ∀ b ∈ bs, 3 ≤ b ∧ b ≤ 999999
  odd : ∀ b ∈ bs, b % 2 = 1
  rise : bs.Pairwise (· < ·)
  cop : bs.Pairwise Cop
theorem Good.ok {bs : List Int} (h : Good bs) : BOk bs := ⟨h.rng, h.cop⟩
noncomputable def room (bs : List Int) : Int := (bs.take (bs.length - 2)).prod
theorem Good.pos {bs : List Int} (h : Good bs) : ∀ b ∈ bs, 0 < b := h.ok.pos
theorem room_pos {bs : List Int} (h : Good bs) : 0 < room bs := prod_pos fun b hb => h.pos b (List.mem_of_mem_take hb)
theorem room_ge3 {bs : List Int} (h : Good bs) : 3 ≤ room bs := by
  unfold room
  have hl := h.len.1
  cases bs with
  | nil => simp at hl
  | cons b bs =>
    have : (b :: bs).length - 2 = ((b :: bs).length - 3) + 1 := by omega
    rw [this, List.take_succ_cons, List.prod_cons]
    have hb := h.rng b (.head _)
    have hP : 0 < (bs.take ((b :: bs).length - 3)).prod := prod_pos fun c hc => h.pos c (.tail _ (List.mem_of_mem_take hc))
    have : 3 * 1 ≤ b * (bs.take ((b :: bs).length - 3)).prod := Int.mul_le_mul hb.1 hP (by omega) (by omega)
    omega
/-- any bases, two fewer at most, reach the room -/
theorem room_le_sub {bs cs : List Int} (h : Good bs) (s : cs.Sublist bs) (hl : bs.length - 2 ≤ cs.length) : room bs ≤ cs.prod := by
  have h1 := prod_take_le_sublist h.rise h.pos s
  refine Int.le_trans ?_ h1
  unfold room
  have hle := s.length_le
  have : bs.take cs.length = bs.take (bs.length - 2) ++ (bs.drop (bs.length - 2)).take (cs.length - (bs.length - 2)) := by
    rw [← List.take_add]; congr 1; omega
  rw [this, List.prod_append]
  have hA : 0 < (bs.take (bs.length - 2)).prod := prod_pos fun b hb => h.pos b (List.mem_of_mem_take hb)
  have hB : 0 < ((bs.drop (bs.length - 2)).take (cs.length - (bs.length - 2))).prod := prod_pos fun b hb => h.pos b (List.mem_of_mem_drop (List.mem_of_mem_take hb))
  have := Int.mul_le_mul_of_nonneg_left (show (1 : Int) ≤ _ from hB) (Int.le_of_lt hA)
  omega
theorem room_lt_prod {bs : List Int} (h : Good bs) : 2 * room bs < bs.prod := by
  have hl := h.len.1
  have e : bs.prod = room bs * (bs.drop (bs.length - 2)).prod := by
    unfold room; rw [← List.prod_append, List.take_append_drop]
  rw [e]
  have h3 : 3 ≤ (bs.drop (bs.length - 2)).prod := by
    cases hd : bs.drop (bs.length - 2) with
    | nil => have := congrArg List.length hd; rw [List.length_drop] at this; simp at this; omega
    | cons b t =>
      have hb := h.rng b (List.mem_of_mem_drop (hd ▸ List.mem_cons_self))
      have hP : 0 < t.prod := prod_pos fun c hc => h.pos c (List.mem_of_mem_drop (hd ▸ List.mem_cons_of_mem _ hc))
      rw [List.prod_cons]
      have : 3 * 1 ≤ b * t.prod := Int.mul_le_mul hb.1 hP (by omega) (by omega)
      omega
  have hr := room_pos h
  have := Int.mul_le_mul_of_nonneg_left h3 (Int.le_of_lt hr)
  omega
end Mine
end
section
namespace Mine

theorem digits_last {bs : List Int} {x : Int} (hp : ∀ b ∈ bs, 0 < b) (h0 : 0 ≤ x) {m : Nat} (hm : m + 1 ≤ bs.length) (h1 : x < (bs.take (m + 1)).prod) : (digits x bs)[m]? = some (x / (bs.take m).prod) := by
  have hml : m < bs.length := hm
  have hb : 0 < bs[m] := hp _ (List.getElem_mem hml)
  have hP : 0 < (bs.take m).prod := prod_pos fun b hb => hp b (List.mem_of_mem_take hb)
  rw [digits_get bs x m hp hml]
  rw [List.take_succ_eq_append_getElem hml, List.prod_append, List.prod_singleton] at h1
  rw [Int.emod_eq_of_lt (Int.ediv_nonneg h0 (Int.le_of_lt hP))]
  exact Int.ediv_lt_of_lt_mul hP (by rw [Int.mul_comm]; exact h1)
theorem ediv_zero_iff {x P : Int} (h0 : 0 ≤ x) (hP : 0 < P) : x / P = 0 ↔ x < P := by
  constructor
  · intro h
    have := Int.emod_add_mul_ediv x P
    rw [h] at this
    have h2 := Int.emod_lt_of_pos x hP
    omega
  · intro h; exact Int.ediv_eq_zero_of_lt h0 h
/-- a row tells a number just where its last two figures are 0 -/
theorem tells_iff {bs : List Int} (h : Good bs) {x : Int} (h0 : 0 ≤ x) (h1 : x < bs.prod) :
    ∃ d e : Int, (digits x bs)[bs.length - 1]? = some d ∧ (digits x bs)[bs.length - 2]? = some e ∧ ((d = 0 ∧ e = 0) ↔ x < room bs) := by
  have hl := h.len.1
  have e1 : bs.take (bs.length - 1 + 1) = bs := List.take_of_length_le (by omega)
  have hP1 : 0 < (bs.take (bs.length - 1)).prod := prod_pos fun b hb => h.pos b (List.mem_of_mem_take hb)
  have hP2 := room_pos h
  have d1 := digits_last h.pos h0 (m := bs.length - 1) (by omega) (by rw [e1]; exact h1)
  have hlt : bs.length - 2 < bs.length := by omega
  have d2 := digits_get bs x (bs.length - 2) h.pos hlt
  refine ⟨_, _, d1, d2, ?_⟩
  have e2 : bs.length - 1 = bs.length - 2 + 1 := by omega
  constructor
  · rintro ⟨a, b⟩
    have hx : x < (bs.take (bs.length - 2 + 1)).prod := by rw [← e2]; exact (ediv_zero_iff h0 hP1).mp a
    have d3 := digits_last h.pos h0 (m := bs.length - 2) (by omega) hx
    rw [d2, b] at d3
    exact (ediv_zero_iff h0 hP2).mp (Option.some.inj d3).symm
  · intro hx
    have hle : room bs ≤ (bs.take (bs.length - 1)).prod := by
      refine room_le_sub h (List.take_sublist _ _) ?_
      rw [List.length_take]; omega
    have hz : x / (bs.take (bs.length - 2)).prod = 0 := Int.ediv_eq_zero_of_lt h0 hx
    exact ⟨Int.ediv_eq_zero_of_lt h0 (Int.lt_of_lt_of_le hx hle), by rw [hz]; simp⟩

theorem sub_but_two (bs : List Int) (p q : Nat) : ∃ cs : List Int, cs.Sublist bs ∧ bs.length - 2 ≤ cs.length ∧ ∀ b ∈ cs, ∃ k, k ≠ p ∧ k ≠ q ∧ bs[k]? = some b := by
  have base : ∀ p q : Nat, p ≤ q → ∃ cs : List Int, cs.Sublist bs ∧ bs.length - 2 ≤ cs.length ∧ ∀ b ∈ cs, ∃ k, k ≠ p ∧ k ≠ q ∧ bs[k]? = some b := by
    intro p q hpq
    by_cases e : p = q
    · subst e
      refine ⟨bs.eraseIdx p, List.eraseIdx_sublist .., ?_, fun b hb => ?_⟩
      · have := List.length_eraseIdx (l := bs) (i := p); split at this <;> omega
      · obtain ⟨i, hi, hb⟩ := List.mem_eraseIdx_iff_getElem?.mp hb
        exact ⟨i, hi, hi, hb⟩
    · refine ⟨(bs.eraseIdx q).eraseIdx p, (List.eraseIdx_sublist ..).trans (List.eraseIdx_sublist ..), ?_, fun b hb => ?_⟩
      · have h1 := List.length_eraseIdx (l := bs) (i := q)
        have h2 := List.length_eraseIdx (l := bs.eraseIdx q) (i := p)
        split at h1 <;> split at h2 <;> omega
      · obtain ⟨i, hi, hb⟩ := List.mem_eraseIdx_iff_getElem?.mp hb
        rw [List.getElem?_eraseIdx] at hb
        split at hb
        · exact ⟨i, hi, by omega, hb⟩
        · exact ⟨i + 1, by omega, by omega, hb⟩
  by_cases h : p ≤ q
  · exact base p q h
  · obtain ⟨cs, a, b, c⟩ := base q p (by omega)
    exact ⟨cs, a, b, fun x hx => let ⟨k, k1, k2, k3⟩ := c x hx; ⟨k, k2, k1, k3⟩⟩
/-- two numbers of the room whose rests part at two places at most are one -/
theorem two_apart {bs : List Int} (h : Good bs) {x y : Int} (p q : Nat) (hx0 : 0 ≤ x) (hx : x < room bs) (hy0 : 0 ≤ y) (hy : y < room bs)
    (e : ∀ (k : Nat) (b : Int), k ≠ p → k ≠ q → bs[k]? = some b → x % b = y % b) : x = y := by
  obtain ⟨cs, s, hl, hc⟩ := sub_but_two bs p q
  have hr := room_le_sub h s hl
  refine agree (h.cop.sublist s) hx0 (by omega) hy0 (by omega) fun b hb => ?_
  obtain ⟨k, k1, k2, k3⟩ := hc b hb
  exact e k b k1 k2 k3

theorem rowOf_get {x : Int} {bs : List Int} {k : Nat} {b : Int} (hb : bs[k]? = some b) : (rowOf x bs)[k]? = some (x % b) := by
  unfold rowOf; rw [List.getElem?_map, hb]; rfl
theorem room_lt {bs : List Int} (h : Good bs) {N : Int} (h1 : N < room bs) : N < bs.prod := by
  have := room_lt_prod h; have := room_pos h; omega
/-- one wrong rest: the row tells no number -/
theorem wrong_tells_none {bs : List Int} {N : Int} {row : List Int} (h : Good bs) (hl : row.length = bs.length) (h0 : 0 ≤ N) (h1 : N < room bs) (q : Nat) {r b : Int}
    (hb : bs[q]? = some b) (hr : row[q]? = some r) (hne : r % b ≠ N % b) (e : ∀ k : Nat, k ≠ q → row[k]? = (rowOf N bs)[k]?) : room bs ≤ crt row bs := by
  apply Int.le_of_not_gt
  intro hlt
  have hc := crt_is h.ok hl
  have : crt row bs = N := by
    refine two_apart h q q hc.lo hlt h0 h1 fun k b' hk _ hb' => ?_
    have := hc.res.get ((e k hk).trans (rowOf_get hb')) hb'
    rw [emod_eq_of_sub this, Int.emod_emod_of_dvd _ (Int.dvd_refl _)]
  have h2 := emod_eq_of_sub (hc.res.get hr hb)
  rw [this] at h2
  exact hne h2.symm
theorem take_cons_drop {α : Type} {l : List α} {i : Nat} (h : i < l.length) (v : α) : l.take i ++ [v] ++ l.drop (i + 1) = l.set i v := by
  rw [List.append_assoc, List.singleton_append, List.set_eq_take_append_cons_drop, if_pos h]
end Mine
end
section
namespace Mine

theorem Cop.self {a : Int} (h : Cop a a) (ha : 1 < a) : False := by
  obtain ⟨u, v, e⟩ := h
  have : a ∣ 1 := ⟨u + v, by rw [← e]; grind⟩
  have := Int.le_of_dvd (by decide) this
  omega
/-- the numbers that _law_bases draws from -/
structure Cfg (ps es : List Int) (far : Int) : Prop where
  plen : ps.length ≤ 5
  len : ps.length + es.length ≤ 14
  elen : 3 ≤ es.length
  pr : ∀ p ∈ ps, 3 ≤ p ∧ p ≤ 13 ∧ p % 2 = 1
  pc : ps.Pairwise Cop
  er : ∀ e ∈ es, 3 ≤ far + e ∧ far + e ≤ 999999 ∧ (far + e) % 2 = 1
  ec : (es.map (far + ·)).Pairwise Cop
  ep : ∀ e ∈ es, ∀ p ∈ ps, Cop (far + e) p
/-- what the first part has gathered -/
structure Some1 (ps : List Int) (l : List Int) : Prop where
  rng : ∀ e ∈ l, 3 ≤ e ∧ e ≤ 900000 ∧ e % 2 = 1
  made : ∀ e ∈ l, ∀ z, (∀ q ∈ ps, Cop z q) → Cop z e
  cop : l.Pairwise Cop
theorem Some1.snoc {ps l : List Int} {e : Int} (h : Some1 ps l) (h1 : 3 ≤ e ∧ e ≤ 900000 ∧ e % 2 = 1) (h2 : ∀ z, (∀ q ∈ ps, Cop z q) → Cop z e) (h3 : ∀ a ∈ l, Cop a e) : Some1 ps (l ++ [e]) := by
  refine ⟨fun a ha => ?_, fun a ha => ?_, ?_⟩
  · rcases List.mem_append.mp ha with ha | ha
    · exact h.rng a ha
    · rw [List.mem_singleton.mp ha]; exact h1
  · rcases List.mem_append.mp ha with ha | ha
    · exact h.made a ha
    · rw [List.mem_singleton.mp ha]; exact h2
  · refine List.pairwise_append.mpr ⟨h.cop, List.pairwise_singleton _ _, fun a ha b hb => ?_⟩
    rw [List.mem_singleton.mp hb]; exact h3 a ha
theorem odd_mul {a b : Int} (ha : a % 2 = 1) (hb : b % 2 = 1) : a * b % 2 = 1 := by rw [Int.mul_emod, ha, hb]; rfl
theorem Some1.join {ps : List Int} {a b : Int} {l : List Int} (h : Some1 ps (a :: b :: l)) (hlt : a * b < 900000) : Some1 ps (a * b :: l) := by
  have ra := h.rng a (by simp)
  have rb := h.rng b (by simp)
  have hp := List.pairwise_cons.mp h.cop
  have hp2 := List.pairwise_cons.mp hp.2
  refine ⟨fun e he => ?_, fun e he z hz => ?_, ?_⟩
  · rcases List.mem_cons.mp he with rfl | he
    · refine ⟨?_, by omega, odd_mul ra.2.2 rb.2.2⟩
      have := Int.mul_le_mul ra.1 rb.1 (by omega) (by omega)
      omega
    · exact h.rng e (by simp [he])
  · rcases List.mem_cons.mp he with rfl | he
    · exact (h.made a (by simp) z hz).mul_right (h.made b (by simp) z hz)
    · exact h.made e (by simp [he]) z hz
  · refine List.pairwise_cons.mpr ⟨fun e he => ?_, hp2.2⟩
    exact (hp.1 e (by simp [he])).mul_left (hp2.1 e he)
/-- a list of coprime odd numbers, sorted, is a list of bases -/
theorem good_sorted {l s : List Int} (hp : s.Perm l) (hs : s.Pairwise (· ≤ ·)) (hl : 3 ≤ l.length ∧ l.length ≤ 14) (hr : ∀ e ∈ l, 3 ≤ e ∧ e ≤ 999999 ∧ e % 2 = 1) (hc : l.Pairwise Cop) : Good s := by
  have hr' : ∀ e ∈ s, 3 ≤ e ∧ e ≤ 999999 ∧ e % 2 = 1 := fun e he => hr e (hp.mem_iff.mp he)
  have hc' : s.Pairwise Cop := (hp.pairwise_iff fun h => h.symm).mpr hc
  refine ⟨by rw [hp.length_eq]; exact hl, fun b hb => ⟨(hr' b hb).1, (hr' b hb).2.1⟩, fun b hb => (hr' b hb).2.2, ?_, hc'⟩
  have both : s.Pairwise fun a b => a ≤ b ∧ Cop a b := List.pairwise_and_iff.mpr ⟨hs, hc'⟩
  refine List.Pairwise.imp_of_mem ?_ both
  rintro a b ha hb ⟨h1, h2⟩
  by_cases e : a = b
  · subst e; exact (h2.self (by have := hr' a ha; omega)).elim
  · omega

theorem cop_shift {a m d : Int} (h : Cop a m) (hd : d ∣ m ^ 4) : Cop a (a + d) := by
  obtain ⟨u, v, e⟩ := (h.pow_right 4).of_dvd_right hd
  exact ⟨u - v, v, by rw [← e]; grind⟩
theorem cop_add_mul {a m t : Int} (h : Cop a m) : Cop (m * t + a) m := by
  obtain ⟨u, v, e⟩ := h
  exact ⟨u, v - u * t, by rw [← e]; grind⟩
theorem pair_cop : ∀ {es : List Int} {m t : Int}, (∀ e ∈ es, Cop e m) → es.Pairwise (fun a b => b - a ∣ m ^ 4) → (es.map (m * t + ·)).Pairwise Cop
  | [], _, _, _, _ => .nil
  | e :: es, m, t, h, hp => by
    rw [List.pairwise_cons] at hp
    rw [List.map_cons]
    refine List.pairwise_cons.mpr ⟨fun b hb => ?_, pair_cop (fun x hx => h x (.tail _ hx)) hp.2⟩
    obtain ⟨c, hc, rfl⟩ := List.mem_map.mp hb
    have := cop_shift (cop_add_mul (t := t) (h e (.head _))) (hp.1 c hc)
    rw [show m * t + c = m * t + e + (c - e) by omega]
    exact this
theorem cfg1 (n : Int) : Cfg [3, 5, 7, 11, 13] [17, 19, 23, 29, 31, 37, 41, 43, 47] (30030 * (n % 34)) := by
  have h0 := Int.emod_nonneg n (b := 34) (by decide)
  have h1 := Int.emod_lt_of_pos n (b := 34) (by decide)
  have ce : ∀ e ∈ ([17, 19, 23, 29, 31, 37, 41, 43, 47] : List Int), Cop e 30030 := by
    intro e he
    simp only [List.mem_cons, List.not_mem_nil, or_false] at he
    rcases he with rfl | rfl | rfl | rfl | rfl | rfl | rfl | rfl | rfl <;> exact cop_of_gcd (by decide)
  refine ⟨by decide, by decide, by decide, by decide, ?_, ?_, pair_cop ce (by decide), ?_⟩
  · refine List.Pairwise.imp (R := fun a b : Int => Int.gcd a b = 1 ∧ 0 ≤ a ∧ 0 ≤ b) ?_ (by decide)
    rintro a b ⟨g1, g2, g3⟩
    obtain ⟨r, rfl⟩ := Int.eq_ofNat_of_zero_le g2
    obtain ⟨c, rfl⟩ := Int.eq_ofNat_of_zero_le g3
    rw [Int.gcd_natCast_natCast] at g1
    exact cop_of_gcd g1
  · intro e he
    simp only [List.mem_cons, List.not_mem_nil, or_false] at he
    rcases he with rfl | rfl | rfl | rfl | rfl | rfl | rfl | rfl | rfl <;> omega
  · intro e he p hp
    refine (cop_add_mul (t := n % 34) (ce e he)).of_dvd_right ?_
    simp only [List.mem_cons, List.not_mem_nil, or_false] at hp
    rcases hp with rfl | rfl | rfl | rfl | rfl <;> decide
theorem cfg2 (n : Int) : Cfg [3, 5, 7, 11] [13, 17, 19, 23, 29, 31] (2310 * (n % 429)) := by
  have h0 := Int.emod_nonneg n (b := 429) (by decide)
  have h1 := Int.emod_lt_of_pos n (b := 429) (by decide)
  have ce : ∀ e ∈ ([13, 17, 19, 23, 29, 31] : List Int), Cop e 2310 := by
    intro e he
    simp only [List.mem_cons, List.not_mem_nil, or_false] at he
    rcases he with rfl | rfl | rfl | rfl | rfl | rfl <;> exact cop_of_gcd (by decide)
  refine ⟨by decide, by decide, by decide, by decide, ?_, ?_, pair_cop ce (by decide), ?_⟩
  · refine List.Pairwise.imp (R := fun a b : Int => Int.gcd a b = 1 ∧ 0 ≤ a ∧ 0 ≤ b) ?_ (by decide)
    rintro a b ⟨g1, g2, g3⟩
    obtain ⟨r, rfl⟩ := Int.eq_ofNat_of_zero_le g2
    obtain ⟨c, rfl⟩ := Int.eq_ofNat_of_zero_le g3
    rw [Int.gcd_natCast_natCast] at g1
    exact cop_of_gcd g1
  · intro e he
    simp only [List.mem_cons, List.not_mem_nil, or_false] at he
    rcases he with rfl | rfl | rfl | rfl | rfl | rfl <;> omega
  · intro e he p hp
    refine (cop_add_mul (t := n % 429) (ce e he)).of_dvd_right ?_
    simp only [List.mem_cons, List.not_mem_nil, or_false] at hp
    rcases hp with rfl | rfl | rfl | rfl <;> decide
end Mine
end
section
namespace Mine
open PySem PySem.W PySem.Calls PyProof.Rows

/-- values without tokens -/
inductive V where
  | none
  | bool (b : Bool)
  | int (i : Int)
  | str (s : Str)
  | ref (a : Addr)
  | other (v : Value)
noncomputable def abs : Value → V
  | .none => .none
  | .bool b => .bool b
  | .int i _ => .int i
  | .str s _ => .str s
  | .ref a => .ref a
  | v => .other v
inductive AObj where
  | list (vs : List V)
  | tup (vs : List V)
  | script (ns : List Int)
  | board (f : Option Addr)
  | exc (c : Str)
abbrev AMap := Str → Option V
abbrev AHeap := Addr → Option AObj
abbrev XE := Str → AHeap → Prop
abbrev XS := Str → AMap → AHeap → Prop
noncomputable def AMap.set (m : AMap) (x : Str) (v : V) : AMap := fun y => if y = x then some v else m y
noncomputable def AMap.unset (m : AMap) (x : Str) : AMap := fun y => if y = x then Option.none else m y
noncomputable def AMap.only (m : AMap) (fv : List Str) : AMap := fun y => if y ∈ fv then m y else Option.none
noncomputable def AHeap.upd (H : AHeap) (a : Addr) (o : AObj) : AHeap := fun b => if b = a then some o else H b
inductive Op | add | sub | mul | fdiv | mod | pow
inductive Cm | lt | le | gt | ge | eq | ne | is | isNot
/-- one tree for expressions, lists of them, statements, lists of them, handlers -/
inductive P where
  | nil
  | cons (a l : P)
  | const (v : V)
  | name (x : Str)
  | glob (x : Str)
  | bin (o : Op) (a b : P)
  | neg (a : P)
  | not (a : P)
  | and (a b : P)
  | or (a b : P)
  | cmp (o : Cm) (a b : P)
  | cmp2 (o o' : Cm) (a b c : P)
  | isIn (a : P) (ns : List Int)
  | isinst (a : P) (c : Str)
  | bi (f : Str) (args : P)
  | call (f : Str) (args : P)
  | make (f : Str) (args : P)
  | meth (o : P) (f : Str) (args : P)
  | attr (o : P) (f : Str)
  | sub (o i : P)
  | slice (o lo hi : P)
  | list (es : P)
  | tup (es : P)
  | comp (rng : Bool) (e : P) (x : Str) (fv : List Str) (it : P) (cond : P)
  | assign (x : Str) (e : P)
  | unpack (x y : Str) (e : P)
  | setAttr (o : P) (f : Str) (e : P)
  | setItem (o i e : P)
  | expr (e : P)
  | ite (t b o : P)
  | forL (x : Str) (it b : P)
  | forR (x : Str) (args b : P)
  | forT (x y : Str) (it b : P)
  | while (t b : P)
  | ret (e : P)
  | raise (c : Str)
  | tryE (b : P) (hs : P)
  | handler (c : Str) (n : Option Str) (b : P)

noncomputable def clsAddr (K : Frag) (c : Str) : Option Addr := match nsIn K mainGlobals c with
  | some (some (.ref C)) => some C
  | _ => Option.none
noncomputable def boardOk (K : Frag) : Bool := match clsAddr K "Board" with
  | some C => plainGet K C "bases" && hasDictIn K C && findIn K (.ref C) "bases" == some Option.none && findIn K (.ref C) "__setattr__" == some (some (.builtin "object.__setattr__")) && plainOver K C && takerIn K C "bases" == some Option.none
  | Option.none => false
/-- the classes above a class of refusals -/
noncomputable def subcls (c d : Str) : Bool := c == d || d == "RestError" || d == "ValueError"
noncomputable def excNames : List Str := ["RestError", "NoBases", "NoRow", "NoNumber", "NoPlace", "NoTurn", "OutOfRoom", "Lost"]
noncomputable def vbm : List Value := [.type "ValueError", .type "Exception", .type "BaseException", .type "object"]
noncomputable def excCls (K : Frag) (c : Str) (C : Addr) : Bool := excIn K C vbm "ValueError.__new__" && kitCls K (.ref C) (.type "ValueError") == some true && (clsIn K C).isSome &&
  excNames.all fun d => match clsAddr K d with
    | some D => exmOne K (.ref C) (.ref D) == some (subcls c d) && kitCls K (.ref C) (.ref D) == some (subcls c d)
    | Option.none => true
noncomputable def excsOk (K : Frag) : Bool := excNames.all fun c => match clsAddr K c with
    | some C => excCls K c C
    | Option.none => true
noncomputable def biNames : List Str := ["len", "list", "sorted", "abs", "int", "min", "max", "isinstance", "range", "bool", "tuple", "ValueError"]
structure Gd where
  prog : Program
  w : World
  K : Frag
  base : Heap
  mg : Str → Option Value
  mb : Str → Option Value
  kin : K.In base
  g : base.Ns mainGlobals mg
  b : base.Ns builtinsNs mb
  nolimit : base.NoLimit
  builtins : ∀ x : Str, x ≠ "__name__" → mb x = bootBuiltins x
  board : boardOk K = true
  excs : excsOk K = true
  bis : (biNames.all fun f => nsIn K mainGlobals f == some Option.none) = true
  own : ∀ x C, nsIn K mainGlobals x = some (some (.ref C)) → excIn K C vbm "ValueError.__new__" = true → OwnCls x C vbm "ValueError.__new__" mg base

noncomputable def excOk (K : Frag) (c : Str) : Bool := excNames.contains c && (clsAddr K c).isSome

noncomputable def FieldIs : Option Addr → List DictEntry → Prop
  | Option.none, es => es = []
  | some l, es => ∃ hs t, es = [⟨hs, .str "bases" t, .ref l⟩]
/-- the object stands at a -/
noncomputable def OAt (G : Gd) (B : Addr → Option Obj) (Ls : List Addr) (h : Heap) (a : Addr) : AObj → Prop
  | .list vs => B a = Option.none ∧ vs.length ≤ 1000 ∧ ∃ (ws : List Value) (n : Nat), h.get? a = some ⟨.type "list", Option.none, .seq ws.toArray n, #[]⟩ ∧ ws.map abs = vs
  | .tup vs => B a = Option.none ∧ vs.length ≤ 1000 ∧ ∃ (ws : List Value) (n : Nat), h.get? a = some ⟨.type "tuple", Option.none, .seq ws.toArray n, #[]⟩ ∧ ws.map abs = vs
  | .script ns => (∃ o, G.base.get? a = some o) ∧ ns.length ≤ 1000 ∧ ∃ vs : List Value, h.IsList a vs.toArray ∧ vs.map abs = ns.map V.int
  | .board f => ∃ C dx es n sl, a = dx + 1 ∧ clsAddr G.K "Board" = some C ∧ h.get? a = some ⟨.ref C, some dx, .plain, sl⟩ ∧ h.get? dx = some (dictOf es n) ∧ B a = Option.none ∧ B dx = Option.none ∧ dx ∉ Ls ∧
      FieldIs f es
  | .exc c => B a = Option.none ∧ ∃ C o vs, clsAddr G.K c = some C ∧ h.get? a = some o ∧ o.cls = .ref C ∧ o.data = .fields vs ∧ o.dict = Option.none ∧ c ∈ excNames

structure FrameAt (env : Env) (m : AMap) (h : Heap) : Prop where
  kind : env.scope.kind = .function
  glob : env.globals = mainGlobals
  bult : env.builtins = builtinsNs
  ns : ∃ ml, h.Ns env.locals ml ∧ ∀ x v, m x = some v →
    (env.kindOf x = some .local ∧ ∃ v', ml x = some v' ∧ abs v' = v) ∨
    ((env.kindOf x = some .cell ∨ env.kindOf x = some .free) ∧ ∃ c v', env.cells.lookup x = some c ∧ h.IsCell c (some v') ∧ abs v' = v)
  cells : ∀ x c, env.cells.lookup x = some c → ∃ v0, h.IsCell c v0
  apart : env.cells.Pairwise fun x y => x.2 ≠ y.2

noncomputable def Apart : List Env → Prop
  | [] => True
  | e :: r => (∀ e' ∈ r, e'.locals < e.locals ∧ ∀ x c, e'.cells.lookup x = some c → c < e.locals) ∧ Apart r

structure Rep (G : Gd) (B : Addr → Option Obj) (es : List (Env × AMap)) (H : AHeap) (h : Heap) : Prop where
  keep : ∀ b o, B b = some o → h.get? b = some o
  base : ∀ b o, G.base.get? b = some o → B b = some o
  fr : ∀ p ∈ es, FrameAt p.1 p.2 h
  apart : Apart (es.map (·.1))
  free : ∀ p ∈ es, B p.1.locals = Option.none ∧ ∀ x c, p.1.cells.lookup x = some c → B c = Option.none
  obj : ∀ a o, H a = some o → OAt G B (es.map (·.1.locals)) h a o

structure AOk (A : Around) (hd : Bool) (n : Nat) (fl : List Env) : Prop where
  frames : A.frames = some fl
  handled : hd = false → A.handled = Option.none
  depth : A.depth + 2 * n ≤ 900
  units : A.units + 20 * n ≤ 9000
structure FlOk (fl : List Env) (es : List (Env × AMap)) : Prop where
  mem : ∀ e ∈ fl, ∃ m, (e, m) ∈ es
  own : ∀ e ∈ fl, e.frame = some e.locals

/-- an exception of a class under way; P: what its flight says -/
noncomputable def FlyT (G : Gd) (B : Addr → Option Obj) (H : AHeap) (a : Addr) (c : Str) (P : Option Value → Prop) (h : Heap) : Prop :=
  c ∈ excNames ∧ ∃ C oe vs a0, clsAddr G.K c = some C ∧ h.get? a = some oe ∧ oe.cls = .ref C ∧ oe.data = .fields vs ∧ oe.dict = Option.none ∧ vs[0]? = some a0 ∧ B a = Option.none ∧ (∀ c', H a ≠ some (.exc c')) ∧
    ((vs[1]? = some .none ∧ P Option.none) ∨ ∃ T oT ts f, vs[1]? = some (.ref T) ∧ T ≠ a ∧ h.get? T = some oT ∧ oT.data = .fields ts ∧ ts[3]? = some f ∧ P (some f) ∧ B T = Option.none ∧ (∀ c', H T ≠ some (.exc c')))
noncomputable def flyP (fl : List Env) : Option Value → Prop
  | Option.none => True
  | some f => f = .none ∨ ∃ e r, fl = e :: r ∧ f = rawInt e.locals
noncomputable def onP (f : Value) : Option Value → Prop
  | Option.none => False
  | some f' => f' = f
/-- an exception of a class under way in the frame L -/
noncomputable def Fly (G : Gd) (B : Addr → Option Obj) (fl : List Env) (H : AHeap) (a : Addr) (c : Str) (h : Heap) : Prop := FlyT G B H a c (flyP fl) h

noncomputable def NPost (G : Gd) (B : Addr → Option Obj) (es : List (Env × AMap)) (s : Shared) {α : Type} (k : α → AHeap → Prop) (v : α) (s' : Shared) : Prop :=
  ∃ h' tk H', s' = { s with heap := h', toks := tk } ∧ Rep G B es H' h' ∧ k v H'
noncomputable def XPost (G : Gd) (B : Addr → Option Obj) (fl : List Env) (es : List (Env × AMap)) (s : Shared) (x : XE) (e : Value) (s' : Shared) : Prop :=
  ∃ h' tk H' a c, e = .ref a ∧ s' = { s with heap := h', toks := tk } ∧ Rep G B es H' h' ∧ Fly G B fl H' a c h' ∧ x c H'

/-- a call of the def at fa -/
noncomputable def CallF (G : Gd) (n : Nat) (fa : Addr) (args : List V) (H : AHeap) (k : V → AHeap → Prop) (x : XE) : Prop :=
  ∀ (A : Around) (fl : List Env) (B : Addr → Option Obj) (es : List (Env × AMap)) (s : Shared) (ws : List Value), AOk A false n fl → FlOk fl es → Rep G B es H s.heap → ws.map abs = args →
    codeAny (model G.prog G.w) A (.call (.ref fa) ⟨ws, []⟩) (fun r s' => match r with
      | .ok (.ret v) => NPost G B es s (fun v => k (abs v)) v s'
      | .ok _ => False
      | .error e => XPost G B fl es s x e s') s

noncomputable def Sm (a : Int) : Prop := -(2 ^ 64) < a ∧ a < 2 ^ 64
noncomputable def Md (a : Int) : Prop := -(10 ^ 100) < a ∧ a < 10 ^ 100
noncomputable def MulOk (a b : Int) : Prop := Sm a ∨ Sm b ∨ (Md a ∧ Md b)
noncomputable def wpBin (o : Op) (u v : V) (H : AHeap) (k : V → AHeap → Prop) : Prop := match o, u, v with
  | .add, .int a, .int b => k (.int (a + b)) H
  | .sub, .int a, .int b => k (.int (a - b)) H
  | .mul, .int a, .int b => MulOk a b ∧ k (.int (a * b)) H
  | .fdiv, .int a, .int b => 0 < b ∧ b < 10 ^ 100 ∧ k (.int (a / b)) H
  | .mod, .int a, .int b => 0 < b ∧ k (.int (a % b)) H
  | .pow, .int a, .int b => 0 ≤ b ∧ b ≤ 1000 ∧ Sm a ∧ k (.int (a ^ b.toNat)) H
  | .add, .ref a, .ref b => ∃ us vs, H a = some (.list us) ∧ H b = some (.list vs) ∧ us.length + vs.length ≤ 1000 ∧ ∀ c, H c = Option.none → k (.ref c) (H.upd c (.list (us ++ vs)))
  | _, _, _ => False
/-- what a value is, two lists deep -/
noncomputable def adata (H : AHeap) : Nat → V → Option PyData
  | _, .none => some .none
  | _, .bool b => some (.bool b)
  | _, .int i => some (.int i)
  | _, .str x => if PyData.strOk x = true then some (.str x) else Option.none
  | n + 1, .ref a => match H a with
    | some (.list vs) => (vs.mapM (adata H n)).map .list
    | some (.tup vs) => (vs.mapM (adata H n)).map .tuple
    | _ => Option.none
  | _, _ => Option.none
noncomputable def wpCmp (o : Cm) (u v : V) (H : AHeap) (k : Bool → Prop) : Prop := match o, u, v with
  | .lt, .int a, .int b => k (decide (a < b))
  | .le, .int a, .int b => k (decide (a ≤ b))
  | .gt, .int a, .int b => k (decide (b < a))
  | .ge, .int a, .int b => k (decide (b ≤ a))
  | .eq, .int a, .int b => k (decide (a = b))
  | .ne, .int a, .int b => k (!decide (a = b))
  | .eq, u, v => ∃ d e, adata H 3 u = some d ∧ adata H 3 v = some e ∧ k (PyData.eqv d e)
  | .ne, u, v => ∃ d e, adata H 3 u = some d ∧ adata H 3 v = some e ∧ k (!PyData.eqv d e)
  | .is, .none, .none => k true
  | .is, .int _, .none => k false
  | .is, .str _, .none => k false
  | .is, .ref _, .none => k false
  | .is, .bool a, .bool b => k (a == b)
  | .isNot, .none, .none => k false
  | .isNot, .int _, .none => k true
  | .isNot, .str _, .none => k true
  | .isNot, .ref _, .none => k true
  | .isNot, .bool a, .bool b => k (!(a == b))
  | _, _, _ => False
noncomputable def wpIs (G : Gd) (v : V) (c : Str) (H : AHeap) (k : Bool → Prop) : Prop := match v with
  | .int _ => (c = "int" ∧ k true) ∨ (c = "bool" ∧ k false) ∨ (c = "list" ∧ k false) ∨ (c = "tuple" ∧ k false)
  | .bool _ => (c = "int" ∧ k true) ∨ (c = "bool" ∧ k true) ∨ (c = "list" ∧ k false) ∨ (c = "tuple" ∧ k false)
  | .str _ => (c = "int" ∧ k false) ∨ (c = "bool" ∧ k false) ∨ (c = "list" ∧ k false) ∨ (c = "tuple" ∧ k false)
  | .ref a => (match H a with
    | some (.list _) => (c = "int" ∧ k false) ∨ (c = "bool" ∧ k false) ∨ (c = "list" ∧ k true) ∨ (c = "tuple" ∧ k false)
    | some (.tup _) => (c = "int" ∧ k false) ∨ (c = "bool" ∧ k false) ∨ (c = "list" ∧ k false) ∨ (c = "tuple" ∧ k true)
    | some (.exc d) => (c = "ValueError" ∨ excOk G.K c = true) ∧ subcls d c = true ∧ k true
    | _ => False)
  | _ => False
noncomputable def wpTruth (v : V) (k : Bool → Prop) : Prop := match v with
  | .bool b => k b
  | .int i => k (decide (i ≠ 0))
  | .none => k false
  | _ => False
noncomputable def wpBi (hd : Bool) (f : Str) (vs : List V) (H : AHeap) (k : V → AHeap → Prop) : Prop := match vs with
  | [.ref a] => (match H a with
    | some (.list us) => (f = "len" ∧ k (.int us.length) H) ∨
        (f = "list" ∧ ∀ c, H c = Option.none → k (.ref c) (H.upd c (.list us))) ∨
        (f = "sorted" ∧ hd = false ∧ ∃ ns : List Int, us = ns.map V.int ∧ ns.length < 64 ∧ ∀ (c : Addr) (ns' : List Int), H c = Option.none → ns'.Perm ns → ns'.Pairwise (· ≤ ·) → k (.ref c) (H.upd c (.list (ns'.map V.int))))
    | some (.tup us) => f = "len" ∧ k (.int us.length) H
    | some (.script us) => f = "len" ∧ k (.int us.length) H
    | _ => False)
  | [.int i] => (f = "abs" ∧ k (.int i.natAbs) H) ∨ (f = "int" ∧ k (.int i) H)
  | [.bool b] => f = "int" ∧ k (.int (if b then 1 else 0)) H
  | [.int i, .int j] => (f = "min" ∧ hd = false ∧ k (.int (min i j)) H) ∨ (f = "max" ∧ hd = false ∧ k (.int (max i j)) H)
  | _ => False
/-- an item at an index -/
noncomputable def itemAt (vs : List V) (i : Int) : Option V := if 0 ≤ i then vs[i.toNat]? else if -(vs.length : Int) ≤ i then vs[(i + vs.length).toNat]? else Option.none
noncomputable def wpSub (u v : V) (H : AHeap) (k : V → Prop) : Prop := match u, v with
  | .ref a, .int i => (match H a with
    | some (.list vs) => ∃ x, itemAt vs i = some x ∧ k x
    | some (.tup vs) => ∃ x, itemAt vs i = some x ∧ k x
    | some (.script ns) => ∃ n, 0 ≤ i ∧ ns[i.toNat]? = some n ∧ k (.int n)
    | _ => False)
  | _, _ => False
noncomputable def cutLo (v : V) (n : Nat) : Option Nat := match v with
  | .none => some 0
  | .int x => some (if x < 0 then n - (-x).toNat else min x.toNat n)
  | _ => Option.none
noncomputable def cutHi (v : V) (n : Nat) : Option Nat := match v with
  | .none => some n
  | .int x => some (if x < 0 then n - (-x).toNat else min x.toNat n)
  | _ => Option.none
noncomputable def wpSlice (u lo hi : V) (H : AHeap) (k : V → AHeap → Prop) : Prop := match u with
  | .ref a => ∃ vs l r, H a = some (.list vs) ∧ cutLo lo vs.length = some l ∧ cutHi hi vs.length = some r ∧ ∀ c, H c = Option.none → k (.ref c) (H.upd c (.list ((vs.drop l).take (r - l))))
  | _ => False
noncomputable def callPre (G : Gd) (n : Nat) (f : Str) (n' : Nat) (fa : Addr) : Prop := n = n' + 1 ∧ nsIn G.K mainGlobals f = some (some (.ref fa)) ∧ keepIn G.K (.ref fa) = true
noncomputable def makePre (G : Gd) (n : Nat) (f : Str) (n' : Nat) (C fa : Addr) : Prop :=
  n = n' + 1 ∧ f = "Board" ∧ nsIn G.K mainGlobals f = some (some (.ref C)) ∧ makesIn G.K C = true ∧ keepIn G.K (.ref C) = true ∧ findIn G.K (.ref C) "__init__" = some (some (.ref fa)) ∧ isFn G.K (.ref fa) = true ∧ typeIn G.K (.ref fa) = some (.type "function")
noncomputable def MakeF (G : Gd) (n' : Nat) (fa : Addr) (vs : List V) (H : AHeap) (k : V → AHeap → Prop) (x : XE) : Prop := ∀ a, H a = Option.none → CallF G n' fa (.ref a :: vs) (H.upd a (.board Option.none)) (fun v H' => v = .none ∧ k (.ref a) H') x
noncomputable def bmeth (K : Frag) (f : Str) : Option Addr := match clsAddr K "Board" with
  | some C => (match findIn K (.ref C) f with
    | some (some (.ref fa)) => if isFn K (.ref fa) && keepIn K (.ref fa) && f != "bases" then some fa else Option.none
    | _ => Option.none)
  | Option.none => Option.none
noncomputable def methPre (G : Gd) (u : V) (f : Str) (H : AHeap) : Prop := match u with
  | .ref a => (match H a with
    | some (.list _) => f = "append"
    | some (.board _) => ∃ fa, bmeth G.K f = some fa
    | _ => False)
  | _ => False
noncomputable def wpMeth (G : Gd) (n : Nat) (u : V) (f : Str) (vs : List V) (H1 H : AHeap) (k : V → AHeap → Prop) (x : XE) : Prop := match u with
  | .ref a => (match H1 a with
    | some (.list _) => ∃ us v, H a = some (.list us) ∧ vs = [v] ∧ us.length < 1000 ∧ k .none (H.upd a (.list (us ++ [v])))
    | some (.board _) => ∃ n' fa, n = n' + 1 ∧ bmeth G.K f = some fa ∧ CallF G n' fa (u :: vs) H k x
    | _ => False)
  | _ => False
noncomputable def wpAttr (u : V) (f : Str) (H : AHeap) (k : V → Prop) : Prop := match u with
  | .ref a => f = "bases" ∧ ∃ l, H a = some (.board (some l)) ∧ k (.ref l)
  | _ => False
noncomputable def rangeOf : List V → Option (Int × Int × Int)
  | [.int b] => some (0, b, 1)
  | [.int a, .int b] => some (a, b, 1)
  | [.int a, .int b, .int c] => if c = 1 ∨ c = -1 then some (a, b, c) else Option.none
  | _ => Option.none
noncomputable def rangeLen (a b c : Int) : Nat := if c = 1 then (b - a).toNat else (a - b).toNat
noncomputable def wpGlob (G : Gd) (f : Str) (k : V → Prop) : Prop := ∃ i t, nsIn G.K mainGlobals f = some (some (.int i t)) ∧ k (.int i)

mutual
noncomputable def wpE (G : Gd) (n : Nat) (hd : Bool) : P → AMap → AHeap → (V → AHeap → Prop) → XE → Prop
  | .const v, _, H, k, _ => k v H
  | .name y, m, H, k, _ => ∃ v, m y = some v ∧ k v H
  | .glob y, _, H, k, _ => wpGlob G y fun v => k v H
  | .bin o a b, m, H, k, x => wpE G n hd a m H (fun u H1 => wpE G n hd b m H1 (fun v H2 => wpBin o u v H2 k) x) x
  | .neg a, m, H, k, x => wpE G n hd a m H (fun u H1 => ∃ i, u = .int i ∧ k (.int (-i)) H1) x
  | .not a, m, H, k, x => wpE G n hd a m H (fun u H1 => wpTruth u fun b => k (.bool (!b)) H1) x
  | .and a b, m, H, k, x => wpE G n hd a m H (fun u H1 => wpTruth u fun t => (t = true → wpE G n hd b m H1 k x) ∧ (t = false → k u H1)) x
  | .or a b, m, H, k, x => wpE G n hd a m H (fun u H1 => wpTruth u fun t => (t = false → wpE G n hd b m H1 k x) ∧ (t = true → k u H1)) x
  | .cmp o a b, m, H, k, x => wpE G n hd a m H (fun u H1 => wpE G n hd b m H1 (fun v H2 => wpCmp o u v H2 fun r => k (.bool r) H2) x) x
  | .cmp2 o o' a b c, m, H, k, x => wpE G n hd a m H (fun u H1 => wpE G n hd b m H1 (fun v H2 => wpCmp o u v H2 fun r => (r = false → k (.bool false) H2) ∧ (r = true → wpE G n hd c m H2 (fun t H3 => wpCmp o' v t H3 fun r' => k (.bool r') H3) x)) x) x
  | .isIn a ns, m, H, k, x => wpE G n hd a m H (fun u H1 => ∃ i, u = .int i ∧ k (.bool (decide (i ∈ ns))) H1) x
  | .isinst a c, m, H, k, x => wpE G n hd a m H (fun u H1 => wpIs G u c H1 fun r => k (.bool r) H1) x
  | .bi f as, m, H, k, x => wpL G n hd as m H (fun vs H1 => wpBi hd f vs H1 k) x
  | .call f as, m, H, k, x => hd = false ∧ ∃ n' fa, callPre G n f n' fa ∧ wpL G n hd as m H (fun vs H1 => CallF G n' fa vs H1 k x) x
  | .make f as, m, H, k, x => hd = false ∧ ∃ n' C fa, makePre G n f n' C fa ∧ wpL G n hd as m H (fun vs H1 => MakeF G n' fa vs H1 k x) x
  | .meth o f as, m, H, k, x => hd = false ∧ wpE G n hd o m H (fun u H1 => methPre G u f H1 ∧ wpL G n hd as m H1 (fun vs H2 => wpMeth G n u f vs H1 H2 k x) x) x
  | .attr o f, m, H, k, x => wpE G n hd o m H (fun u H1 => wpAttr u f H1 fun v => k v H1) x
  | .sub o i, m, H, k, x => wpE G n hd o m H (fun u H1 => wpE G n hd i m H1 (fun v H2 => wpSub u v H2 fun r => k r H2) x) x
  | .slice o lo hi, m, H, k, x => wpE G n hd o m H (fun u H1 => wpE G n hd lo m H1 (fun l H2 => wpE G n hd hi m H2 (fun r H3 => wpSlice u l r H3 k) x) x) x
  | .list es, m, H, k, x => wpL G n hd es m H (fun vs H1 => vs.length ≤ 1000 ∧ ∀ c, H1 c = Option.none → k (.ref c) (H1.upd c (.list vs))) x
  | .tup es, m, H, k, x => wpL G n hd es m H (fun vs H1 => vs.length ≤ 1000 ∧ ∀ c, H1 c = Option.none → k (.ref c) (H1.upd c (.tup vs))) x
  | .comp rng e y fv it cond, m, H, k, x => hd = false ∧
      match rng with
      | false => wpE G n hd it m H (fun u H1 => ∃ a vs, u = .ref a ∧ H1 a = some (.list vs) ∧ ∃ I : Nat → List V → AHeap → Prop, I 0 [] H1 ∧
          (∀ i v ys H', vs[i]? = some v → I i ys H' → ys.length ≤ i ∧ H' a = some (.list vs) ∧ wpE G n hd cond ((m.only fv).set y v) H' (fun t H2 => wpTruth t fun b => (b = true → wpE G n hd e ((m.only fv).set y v) H2 (fun z H3 => I (i + 1) (ys ++ [z]) H3) fun _ _ => False) ∧ (b = false → I (i + 1) ys H2)) fun _ _ => False) ∧
          ∀ ys H', I vs.length ys H' → H' a = some (.list vs) ∧ ∀ c, H' c = Option.none → k (.ref c) (H'.upd c (.list ys))) x
      | true => wpL G n hd it m H (fun us H1 => ∃ a b c, rangeOf us = some (a, b, c) ∧ rangeLen a b c ≤ 1000 ∧ a.natAbs < 2 ^ 60 ∧ b.natAbs < 2 ^ 60 ∧ ∃ I : Nat → List V → AHeap → Prop, I 0 [] H1 ∧
          (∀ i ys H', i < rangeLen a b c → I i ys H' → ys.length ≤ i ∧ wpE G n hd cond ((m.only fv).set y (.int (a + i * c))) H' (fun t H2 => wpTruth t fun b => (b = true → wpE G n hd e ((m.only fv).set y (.int (a + i * c))) H2 (fun z H3 => I (i + 1) (ys ++ [z]) H3) fun _ _ => False) ∧ (b = false → I (i + 1) ys H2)) fun _ _ => False) ∧
          ∀ ys H', I (rangeLen a b c) ys H' → ∀ c, H' c = Option.none → k (.ref c) (H'.upd c (.list ys))) x
  | _, _, _, _, _ => False
noncomputable def wpL (G : Gd) (n : Nat) (hd : Bool) : P → AMap → AHeap → (List V → AHeap → Prop) → XE → Prop
  | .nil, _, H, k, _ => k [] H
  | .cons a l, m, H, k, x => wpE G n hd a m H (fun v H1 => wpL G n hd l m H1 (fun vs H2 => k (v :: vs) H2) x) x
  | _, _, _, _, _ => False
end

mutual
noncomputable def wpS (G : Gd) (n : Nat) (hd : Bool) : P → AMap → AHeap → (AMap → AHeap → Prop) → (V → AHeap → Prop) → XS → Prop
  | .nil, m, H, kn, _, _ => kn m H
  | .cons a l, m, H, kn, kr, x => wpS G n hd a m H (fun m' H' => wpS G n hd l m' H' kn kr x) kr x
  | .assign y e, m, H, kn, _, x => wpE G n hd e m H (fun v H1 => kn (m.set y v) H1) (fun c => x c m)
  | .unpack y z e, m, H, kn, _, x => hd = false ∧ wpE G n hd e m H (fun v H1 => ∃ a u w, v = .ref a ∧ H1 a = some (.tup [u, w]) ∧ kn ((m.set y u).set z w) H1) (fun c => x c m)
  | .setAttr o f e, m, H, kn, _, x => wpE G n hd e m H (fun v H1 => wpE G n hd o m H1 (fun u H2 => ∃ a l, u = .ref a ∧ v = .ref l ∧ f = "bases" ∧ H2 a = some (.board Option.none) ∧ kn m (H2.upd a (.board (some l)))) (fun c => x c m)) (fun c => x c m)
  | .setItem o i e, m, H, kn, _, x => wpE G n hd e m H (fun v H1 => wpE G n hd o m H1 (fun u H2 => wpE G n hd i m H2 (fun t H3 => ∃ a vs j, u = .ref a ∧ t = .int j ∧ H3 a = some (.list vs) ∧ 0 ≤ j ∧ j < vs.length ∧ kn m (H3.upd a (.list (vs.set j.toNat v)))) (fun c => x c m)) (fun c => x c m)) (fun c => x c m)
  | .expr e, m, H, kn, _, x => wpE G n hd e m H (fun _ H1 => kn m H1) (fun c => x c m)
  | .ite t b o, m, H, kn, kr, x => wpE G n hd t m H (fun u H1 => wpTruth u fun r => (r = true → wpS G n hd b m H1 kn kr x) ∧ (r = false → wpS G n hd o m H1 kn kr x)) (fun c => x c m)
  | .forL y it b, m, H, kn, kr, x => hd = false ∧ wpE G n hd it m H (fun u H1 => ∃ a vs, u = .ref a ∧ H1 a = some (.list vs) ∧ ∃ I : Nat → AMap → AHeap → Prop, I 0 m H1 ∧
      (∀ i v m' H', vs[i]? = some v → I i m' H' → H' a = some (.list vs) ∧ wpS G n hd b (m'.set y v) H' (fun m2 H2 => I (i + 1) m2 H2 ∧ H2 a = some (.list vs)) kr x) ∧
      ∀ m' H', I vs.length m' H' → kn m' H') (fun c => x c m)
  | .forT y z it b, m, H, kn, kr, x => hd = false ∧ wpE G n hd it m H (fun u H1 => ∃ a vs, u = .ref a ∧ H1 a = some (.list vs) ∧ ∃ I : Nat → AMap → AHeap → Prop, I 0 m H1 ∧
      (∀ i v m' H', vs[i]? = some v → I i m' H' → H' a = some (.list vs) ∧ ∃ c p q, v = .ref c ∧ H' c = some (.tup [p, q]) ∧ wpS G n hd b ((m'.set y p).set z q) H' (fun m2 H2 => I (i + 1) m2 H2 ∧ H2 a = some (.list vs)) kr x) ∧
      ∀ m' H', I vs.length m' H' → kn m' H') (fun c => x c m)
  | .forR y as b, m, H, kn, kr, x => hd = false ∧ wpL G n hd as m H (fun us H1 => ∃ p q c, rangeOf us = some (p, q, c) ∧ p.natAbs < 2 ^ 60 ∧ q.natAbs < 2 ^ 60 ∧ ∃ I : Nat → AMap → AHeap → Prop, I 0 m H1 ∧
      (∀ i m' H', i < rangeLen p q c → I i m' H' → wpS G n hd b (m'.set y (.int (p + i * c))) H' (I (i + 1)) kr x) ∧
      ∀ m' H', I (rangeLen p q c) m' H' → kn m' H') (fun c => x c m)
  | .while t b, m, H, kn, kr, x => hd = false ∧ ∃ (I : Nat → AMap → AHeap → Prop) (j : Nat), I j m H ∧
      ∀ j m' H', I j m' H' → wpE G n hd t m' H' (fun u H2 => wpTruth u fun r => (r = true → wpS G n hd b m' H2 (fun m3 H3 => ∃ j', j' < j ∧ I j' m3 H3) kr x) ∧ (r = false → kn m' H2)) (fun c => x c m')
  | .ret e, m, H, _, kr, x => wpE G n hd e m H kr (fun c => x c m)
  | .raise c, m, H, _, _, x => hd = false ∧ excOk G.K c = true ∧ x c m H
  | .tryE b hs, m, H, kn, kr, x => hd = false ∧ wpS G n hd b m H kn kr (fun c m' H' => wpH G n hs c m' H' kn kr x)
  | _, _, _, _, _, _ => False
/-- the clauses of a try, for an exception of the class c -/
noncomputable def wpH (G : Gd) (n : Nat) : P → Str → AMap → AHeap → (AMap → AHeap → Prop) → (V → AHeap → Prop) → XS → Prop
  | .cons (.handler d nm b) r, c, m, H, kn, kr, x => excOk G.K d = true ∧
      (subcls c d = true → match nm with
        | Option.none => wpS G n true b m H kn kr (fun _ _ _ => False)
        | some y => ∀ a, H a = Option.none → wpS G n true b (m.set y (.ref a)) (H.upd a (.exc c)) (fun m' H' => kn (m'.unset y) H') kr (fun _ _ _ => False)) ∧
      (subcls c d = false → wpH G n r c m H kn kr x)
  | .nil, c, m, H, _, _, x => x c m H
  | _, _, _, _, _, _, _ => False
end
end Mine
end
section
namespace Mine
open PySem PySem.W PySem.Calls PyProof.Rows

theorem abs_int {v : Value} {i : Int} (h : abs v = .int i) : ∃ t, v = .int i t := by cases v <;> simp [abs] at h; subst h; exact ⟨_, rfl⟩
theorem abs_str {v : Value} {i : Str} (h : abs v = .str i) : ∃ t, v = .str i t := by cases v <;> simp [abs] at h; subst h; exact ⟨_, rfl⟩
theorem abs_bool {v : Value} {b : Bool} (h : abs v = .bool b) : v = .bool b := by cases v <;> simp [abs] at h; subst h; rfl
theorem abs_ref {v : Value} {a : Addr} (h : abs v = .ref a) : v = .ref a := by cases v <;> simp [abs] at h; subst h; rfl
theorem abs_none {v : Value} (h : abs v = .none) : v = .none := by cases v <;> simp [abs] at h; rfl

theorem succ_inj {a b c : Addr} (h1 : a = b + 1) (h2 : c + 1 = a) : b = c := Nat.succ.inj (h1.symm.trans h2.symm)
theorem succ_ne {a b : Addr} (h : a = b + 1) : a ≠ b := fun q => Nat.succ_ne_self b (h.symm.trans q)
theorem succ_lt {a b n : Addr} (h : a = b + 1) (h2 : a < n) : b < n := Nat.lt_of_succ_lt (by rw [h] at h2; exact h2)
section
variable {G : Gd} {B B' : Addr → Option Obj} {es : List (Env × AMap)} {H H' : AHeap} {h h' : Heap} {a b : Addr} {o : AObj} {Ls Ls' : List Addr} {env : Env} {m : AMap}

theorem OAt.change (x : OAt G B Ls h a o) (hk : ∀ b oo, h.get? b = some oo → (b = a ∨ (b + 1 = a ∧ ∃ f, o = .board f)) → h'.get? b = some oo) (hB : ∀ b, B b = none → B' b = none) (hL : ∀ b, b < h.objs.size → b ∉ Ls → b ∉ Ls') : OAt G B' Ls' h' a o := by
  cases o with
  | list vs => obtain ⟨x1, x2, ws, n, x3, x4⟩ := x; exact ⟨hB _ x1, x2, ws, n, hk _ _ x3 (.inl rfl), x4⟩
  | tup vs => obtain ⟨x1, x2, ws, n, x3, x4⟩ := x; exact ⟨hB _ x1, x2, ws, n, hk _ _ x3 (.inl rfl), x4⟩
  | script ns => obtain ⟨x1, x2, vs, ⟨ol, x3, x4⟩, x5⟩ := x; exact ⟨x1, x2, vs, ⟨ol, hk _ _ x3 (.inl rfl), x4⟩, x5⟩
  | board f =>
    obtain ⟨C, dx, es, n, sl, x0, x1, x2, x3, x4, x5, x6, x7⟩ := x
    exact ⟨C, dx, es, n, sl, x0, x1, hk _ _ x2 (.inl rfl), hk _ _ x3 (.inr ⟨x0.symm, f, rfl⟩), hB _ x4, hB _ x5, hL _ (Heap.lt_size x3) x6, x7⟩
  | exc c => obtain ⟨x1, C, oo, vs, x2, x3, x4⟩ := x; exact ⟨hB _ x1, C, oo, vs, x2, hk _ _ x3 (.inl rfl), x4⟩
theorem OAt.keeps (x : OAt G B Ls h a o) (hk : ∀ b o, h.get? b = some o → h'.get? b = some o) : OAt G B Ls h' a o := x.change (fun b o e _ => hk b o e) (fun _ e => e) fun _ _ e => e
theorem OAt.lt (x : OAt G B Ls h a o) : a < h.objs.size := by
  cases o with
  | list vs => obtain ⟨x1, x2, ws, n, x3, x4⟩ := x; exact Heap.lt_size x3
  | tup vs => obtain ⟨x1, x2, ws, n, x3, x4⟩ := x; exact Heap.lt_size x3
  | script ns => obtain ⟨x1, x2, vs, ⟨ol, x3, x4⟩, x5⟩ := x; exact Heap.lt_size x3
  | board f => obtain ⟨C, dx, es, n, sl, x0, x1, x2, _⟩ := x; exact Heap.lt_size x2
  | exc c => obtain ⟨x1, C, oo, vs, x2, x3, x4⟩ := x; exact Heap.lt_size x3
/-- what lies at an object's places -/
theorem OAt.data (x : OAt G B Ls h a o) {oo : Obj} (e : h.get? a = some oo) : (∃ vs n, oo.data = .seq vs n) ∨ oo.data = .plain ∨ ∃ vs, oo.data = .fields vs := by
  cases o with
  | list vs => obtain ⟨x1, x2, ws, n, x3, x4⟩ := x; rw [e] at x3; cases x3; exact .inl ⟨_, _, rfl⟩
  | tup vs => obtain ⟨x1, x2, ws, n, x3, x4⟩ := x; rw [e] at x3; cases x3; exact .inl ⟨_, _, rfl⟩
  | script ns => obtain ⟨x1, x2, vs, ⟨ol, x3, x4, n, x6⟩, x5⟩ := x; rw [e] at x3; cases x3; exact .inl ⟨_, _, x6⟩
  | board f => obtain ⟨C, dx, es, n, sl, x0, x1, x2, _⟩ := x; rw [e] at x2; cases x2; exact .inr (.inl rfl)
  | exc c => obtain ⟨x1, C, oo', vs, x2, x3, x4, x5, x6⟩ := x; rw [e] at x3; cases x3; exact .inr (.inr ⟨_, x5⟩)

theorem FrameAt.change (x : FrameAt env m h) (hl : ∀ o, h.get? env.locals = some o → h'.get? env.locals = some o) (hc : ∀ x c o, env.cells.lookup x = some c → h.get? c = some o → h'.get? c = some o) : FrameAt env m h' := by
  obtain ⟨x1, x2, x3, ⟨ml, x4, x5⟩, x6, x7⟩ := x
  refine ⟨x1, x2, x3, ⟨ml, x4.at' hl, fun y v e => ?_⟩, fun y c e => ?_, x7⟩
  · rcases x5 y v e with z | ⟨z1, c, v', z2, ⟨o, z3, z4⟩, z5⟩
    · exact .inl z
    · exact .inr ⟨z1, c, v', z2, ⟨o, hc _ _ _ z2 z3, z4⟩, z5⟩
  · obtain ⟨v0, o, z1, z2⟩ := x6 y c e
    exact ⟨v0, o, hc _ _ _ e z1, z2⟩
theorem FrameAt.keeps (x : FrameAt env m h) (hk : ∀ b o, h.get? b = some o → h'.get? b = some o) : FrameAt env m h' := x.change (fun o e => hk _ o e) fun _ _ o _ e => hk _ o e
theorem FrameAt.lt (x : FrameAt env m h) : env.locals < h.objs.size := by obtain ⟨ml, x4, _⟩ := x.ns; exact x4.lt
theorem FrameAt.cell_lt (x : FrameAt env m h) {y : Str} {c : Addr} (e : env.cells.lookup y = some c) : c < h.objs.size := by obtain ⟨v0, z⟩ := x.cells y c e; exact z.lt
theorem FrameAt.obj (x : FrameAt env m h) : ∃ o es ep, h.get? env.locals = some o ∧ o.data = .dict es ep := by obtain ⟨ml, ⟨o, es, ep, e, d, _⟩, _⟩ := x.ns; exact ⟨o, es, ep, e, d⟩
theorem FrameAt.weak {m' : AMap} (x : FrameAt env m h) (hm : ∀ y v, m' y = some v → m y = some v) : FrameAt env m' h := by
  obtain ⟨x1, x2, x3, ⟨ml, x4, x5⟩, x6, x7⟩ := x
  exact ⟨x1, x2, x3, ⟨ml, x4, fun y v e => x5 y v (hm y v e)⟩, x6, x7⟩

theorem Rep.grow (R : Rep G B es H h) (hk : ∀ b o, h.get? b = some o → h'.get? b = some o) : Rep G B es H h' :=
  ⟨fun b o e => hk b o (R.keep b o e), R.base, fun p hp => (R.fr p hp).keeps hk, R.apart, R.free, fun a o e => (R.obj a o e).keeps hk⟩
theorem Rep.push (R : Rep G B es H h) (o : Obj) : Rep G B es H (h.push o) := R.grow fun _ _ e => Heap.get?_push_of_some _ e
theorem Rep.fresh (R : Rep G B es H h) (ha : h.objs.size ≤ a) : H a = none := by
  cases e : H a with
  | none => rfl
  | some o => exact absurd (R.obj a o e).lt (Nat.not_lt.mpr ha)
theorem Rep.freshB (R : Rep G B es H h) (ha : h.objs.size ≤ a) : B a = none := by
  cases e : B a with
  | none => rfl
  | some o => exact absurd (Heap.lt_size (R.keep a o e)) (Nat.not_lt.mpr ha)
theorem OAt.get (x : OAt G B Ls h a o) : ∃ oo, h.get? a = some oo := by
  cases o with
  | list vs => obtain ⟨x1, x2, ws, n, x3, x4⟩ := x; exact ⟨_, x3⟩
  | tup vs => obtain ⟨x1, x2, ws, n, x3, x4⟩ := x; exact ⟨_, x3⟩
  | script ns => obtain ⟨x1, x2, vs, ⟨ol, x3, x4⟩, x5⟩ := x; exact ⟨_, x3⟩
  | board f => obtain ⟨C, dx, es, n, sl, x0, x1, x2, _⟩ := x; exact ⟨_, x2⟩
  | exc c => obtain ⟨x1, C, oo, vs, x2, x3, x4⟩ := x; exact ⟨_, x3⟩
theorem Rep.fresh' (R : Rep G B es H h) (ha : h.get? a = none) : H a = none := by
  cases e : H a with
  | none => rfl
  | some o => obtain ⟨oo, q⟩ := (R.obj a o e).get; rw [ha] at q; cases q
theorem Rep.freshB' (R : Rep G B es H h) (ha : h.get? a = none) : B a = none := by
  cases e : B a with
  | none => rfl
  | some o => have := R.keep a o e; rw [ha] at this; cases this
theorem Rep.new (R : Rep G B es H h) (hk : ∀ b o, h.get? b = some o → h'.get? b = some o) (ho : OAt G B (es.map (·.1.locals)) h' a o) : Rep G B es (H.upd a o) h' := by
  have R' := R.grow hk
  refine ⟨R'.keep, R'.base, R'.fr, R'.apart, R'.free, fun b o' e => ?_⟩
  unfold AHeap.upd at e
  split at e
  · rename_i q; subst q; cases e; exact ho
  · exact R'.obj b o' e
theorem Rep.less (R : Rep G B es H h) (hs : ∀ a o, H' a = some o → H a = some o) : Rep G B es H' h := ⟨R.keep, R.base, R.fr, R.apart, R.free, fun a o e => R.obj a o (hs a o e)⟩
theorem Rep.inK (R : Rep G B es H h) : G.K.In h := G.kin.keeps fun b o e => R.keep b o (R.base b o e)
theorem Rep.stays (R : Rep G B es H h) : G.base.StaysIn h := fun b o e => R.keep b o (R.base b o e)
theorem Rep.nolimit (R : Rep G B es H h) : h.NoLimit := G.nolimit.keeps R.stays
theorem Rep.gn (R : Rep G B es H h) : h.Ns mainGlobals G.mg := G.g.keeps R.stays
theorem Rep.bn (R : Rep G B es H h) : h.Ns builtinsNs G.mb := G.b.keeps R.stays
theorem Rep.tail {p : Env × AMap} (R : Rep G B (p :: es) H h) : Rep G B es H h :=
  ⟨R.keep, R.base, fun q hq => R.fr q (.tail _ hq), R.apart.2, fun q hq => R.free q (.tail _ hq), fun a o e => (R.obj a o e).change (fun _ _ e _ => e) (fun _ e => e) fun b _ hb => fun hm => hb (.tail _ hm)⟩
theorem Rep.head (R : Rep G B ((env, m) :: es) H h) : FrameAt env m h := R.fr _ (.head _)
theorem Rep.weakM {m' : AMap} (R : Rep G B ((env, m) :: es) H h) (hm : ∀ y v, m' y = some v → m y = some v) : Rep G B ((env, m') :: es) H h :=
  ⟨R.keep, R.base, fun q hq => by
    rcases List.mem_cons.mp hq with rfl | hq
    · exact R.head.weak hm
    · exact R.fr q (.tail _ hq), R.apart, fun q hq => by
    rcases List.mem_cons.mp hq with rfl | hq
    · exact R.free (env, m) (.head _)
    · exact R.free q (.tail _ hq), R.obj⟩
theorem Rep.enter (R : Rep G B es H h) (hk : ∀ b o, h.get? b = some o → h'.get? b = some o) (hL : h.objs.size ≤ env.locals) (hF : FrameAt env m h') (hc : ∀ x c, env.cells.lookup x = some c → B c = none) : Rep G B ((env, m) :: es) H h' := by
  have R' := R.grow hk
  refine ⟨R'.keep, R'.base, fun q hq => ?_, ⟨fun e' he' => ?_, R.apart⟩, fun q hq => ?_, fun a o e => ?_⟩
  · rcases List.mem_cons.mp hq with rfl | hq
    · exact hF
    · exact R'.fr q hq
  · obtain ⟨p, hp, rfl⟩ := List.mem_map.mp he'
    exact ⟨Nat.lt_of_lt_of_le (R.fr p hp).lt hL, fun x c e => Nat.lt_of_lt_of_le ((R.fr p hp).cell_lt e) hL⟩
  · rcases List.mem_cons.mp hq with rfl | hq
    · exact ⟨R.freshB hL, hc⟩
    · exact R'.free q hq
  · refine (R.obj a o e).change (fun b o e _ => hk b o e) (fun _ e => e) fun b hlt hb hm => ?_
    rcases List.mem_cons.mp hm with e | hm
    · exact absurd hlt (Nat.not_lt.mpr (by rw [show b = env.locals from e]; exact hL))
    · exact hb hm

/-- one place outside the frames turns -/
theorem Rep.turn (R : Rep G B es H h) (hs : ∀ c o, c ≠ b → h.get? c = some o → h'.get? c = some o) (hB : B b = none) (hL : ∀ p ∈ es, p.1.locals ≠ b) (hC : ∀ p ∈ es, ∀ x c, p.1.cells.lookup x = some c → c ≠ b)
    (hO : ∀ a o, H' a = some o → (H a = some o ∧ a ≠ b ∧ ((∃ f, o = .board f) → b + 1 ≠ a)) ∨ OAt G B (es.map (·.1.locals)) h' a o) : Rep G B es H' h' := by
  refine ⟨fun c o e => hs c o (fun q => by rw [q, hB] at e; cases e) (R.keep c o e), R.base, fun p hp => (R.fr p hp).change (fun o e => hs _ o (hL p hp) e) fun x c o e q => hs c o (hC p hp x c e) q, R.apart, R.free, fun a o e => ?_⟩
  rcases hO a o e with ⟨z1, z2, z3⟩ | z
  · refine (R.obj a o z1).change (fun c oo e hc => hs c oo (fun q => ?_) e) (fun _ e => e) fun _ _ e => e
    rcases hc with rfl | ⟨hc, hf⟩
    · exact z2 q
    · exact z3 hf (by rw [← q]; exact hc)
  · exact z
theorem Rep.not_frame (R : Rep G B es H h) {oo : Obj} (e : h.get? b = some oo) (hd : (∃ vs n, oo.data = .seq vs n) ∨ oo.data = .plain ∨ ∃ vs, oo.data = .fields vs) : (∀ p ∈ es, p.1.locals ≠ b) ∧ ∀ p ∈ es, ∀ x c, p.1.cells.lookup x = some c → c ≠ b := by
  constructor
  · intro p hp q
    obtain ⟨o, es, ep, z1, z2⟩ := (R.fr p hp).obj
    rw [q, e] at z1; cases z1
    rcases hd with ⟨vs, n, hd⟩ | hd | ⟨vs, hd⟩ <;> (rw [z2] at hd; cases hd)
  · intro p hp x c hc q
    obtain ⟨v0, o, z1, z2⟩ := (R.fr p hp).cells x c hc
    rw [q, e] at z1; cases z1
    rcases hd with ⟨vs, n, hd⟩ | hd | ⟨vs, hd⟩ <;> (rw [z2] at hd; cases hd)
theorem Rep.setList {vs vs' : List V} {ws : List Value} {n : Nat} (R : Rep G B es H h) (ha : H a = some (.list vs)) (hs : ∀ c o, c ≠ a → h.get? c = some o → h'.get? c = some o)
    (ho : h'.get? a = some ⟨.type "list", none, .seq ws.toArray n, #[]⟩) (hw : ws.map abs = vs') (hl : vs'.length ≤ 1000) : Rep G B es (H.upd a (.list vs')) h' := by
  obtain ⟨x1, x2, ws0, n0, x3, x4⟩ := R.obj a _ ha
  obtain ⟨z1, z2⟩ := R.not_frame x3 (.inl ⟨_, _, rfl⟩)
  refine R.turn hs x1 z1 z2 fun b o e => ?_
  unfold AHeap.upd at e
  split at e
  · rename_i q; subst q; cases e; exact .inr ⟨x1, hl, ws, n, ho, hw⟩
  · rename_i q
    refine .inl ⟨e, q, ?_⟩
    rintro ⟨f, rfl⟩ hb
    obtain ⟨C, dx, es, n, sl, y0, y1, y2, y3, _⟩ := R.obj b _ e
    rw [succ_inj y0 hb, x3] at y3; injection y3 with y3; injection y3 with _ _ y3; cases y3
theorem Rep.setBoard {l : Addr} {es' : List DictEntry} {n' : Nat} {hs0 : Int} {t : Tok} {C dx : Addr} {sl : Array (Option Value)} (R : Rep G B es H h) (ha : H a = some (.board none)) (hdx : h.get? a = some ⟨.ref C, some dx, .plain, sl⟩)
    (hs : ∀ c o, c ≠ dx → h.get? c = some o → h'.get? c = some o) (ho : h'.get? dx = some (dictOf es' n')) (he : es' = [⟨hs0, .str "bases" t, .ref l⟩]) : Rep G B es (H.upd a (.board (some l))) h' := by
  obtain ⟨C', dx', es0, n0, sl', x0, x1, x2, x3, x4, x5, x6, x7⟩ := R.obj a _ ha
  rw [hdx] at x2; cases x2
  have z1 : ∀ p ∈ es, p.1.locals ≠ dx := fun p hp q => x6 (by rw [← q]; exact List.mem_map.mpr ⟨p, hp, rfl⟩)
  have z2 : ∀ p ∈ es, ∀ x c, p.1.cells.lookup x = some c → c ≠ dx := by
    intro p hp x c hc q
    obtain ⟨v0, o, y1, y2⟩ := (R.fr p hp).cells x c hc
    rw [q, x3] at y1; cases y1; cases y2
  refine R.turn hs x5 z1 z2 fun b o e => ?_
  unfold AHeap.upd at e
  split at e
  · rename_i q; subst q; cases e
    exact .inr ⟨C, dx, es', n', sl, x0, x1, hs _ _ (succ_ne x0) hdx, ho, x4, x5, x6, hs0, t, he⟩
  · rename_i q
    have hb : b ≠ dx := by
      intro q'
      subst q'
      rcases (R.obj b o e).data x3 with ⟨_, _, z⟩ | z | ⟨_, z⟩ <;> cases z
    exact .inl ⟨e, hb, fun _ z => q (by rw [← z, ← x0])⟩

theorem Rep.reLocal {m' : AMap} {ml' : Str → Option Value} (R : Rep G B ((env, m) :: es) H h) (hml : ∀ x v, m' x = some v →
    (env.kindOf x = some .local ∧ ∃ v', ml' x = some v' ∧ abs v' = v) ∨ ((env.kindOf x = some .cell ∨ env.kindOf x = some .free) ∧ ∃ c v', env.cells.lookup x = some c ∧ h.IsCell c (some v') ∧ abs v' = v))
    (hn : h'.Ns env.locals ml') (hk : ∀ c o, c ≠ env.locals → h.get? c = some o → h'.get? c = some o) : Rep G B ((env, m') :: es) H h' := by
  have F := R.head
  obtain ⟨oL, _, _, eL, dL⟩ := F.obj
  have cne : ∀ p ∈ (env, m) :: es, ∀ x c, p.1.cells.lookup x = some c → c ≠ env.locals := by
    intro p hp x c hc q
    obtain ⟨v0, o, y1, y2⟩ := (R.fr p hp).cells x c hc
    rw [q, eL] at y1; cases y1; rw [dL] at y2; cases y2
  refine ⟨fun c o e => hk c o (fun q => by rw [q, (R.free _ (.head _)).1] at e; cases e) (R.keep c o e), R.base, fun p hp => ?_, R.apart, fun p hp => ?_, fun a o e => ?_⟩
  · rcases List.mem_cons.mp hp with rfl | hp
    · refine ⟨F.kind, F.glob, F.bult, ⟨_, hn, fun y w e => ?_⟩, fun y c e => ?_, F.apart⟩
      · rcases hml y w e with z | ⟨z1, c, v', z2, ⟨o, z3, z4⟩, z5⟩
        · exact .inl z
        · exact .inr ⟨z1, c, v', z2, ⟨o, hk c o (cne _ (.head _) _ _ z2) z3, z4⟩, z5⟩
      · obtain ⟨v0, o, z1, z2⟩ := F.cells y c e
        exact ⟨v0, o, hk c o (cne _ (.head _) _ _ e) z1, z2⟩
    · have hlt := (R.apart.1 p.1 (List.mem_map.mpr ⟨p, hp, rfl⟩)).1
      exact (R.fr p (.tail _ hp)).change (fun o e => hk _ o (Nat.ne_of_lt hlt) e) fun x c o e q => hk c o (cne p (.tail _ hp) x c e) q
  · rcases List.mem_cons.mp hp with rfl | hp
    · exact R.free (env, m) (.head _)
    · exact R.free p (.tail _ hp)
  · refine (R.obj a o e).change (fun c oo q hc => hk c oo (fun z => ?_) q) (fun _ e => e) fun _ _ e => e
    rcases hc with rfl | ⟨hc, f, rfl⟩
    · rw [z, eL] at q; cases q
      rw [← z] at eL
      rcases (R.obj _ o e).data eL with ⟨_, _, y⟩ | y | ⟨_, y⟩ <;> (rw [dL] at y; cases y)
    · obtain ⟨C, dx, es', n, sl, y0, y1, y2, y3, y4, y5, y6, y7⟩ := R.obj _ _ e
      exact y6 (by rw [succ_inj y0 hc, z]; exact .head _)
theorem Rep.setLocal {x : Str} {v : Value} {ml : Str → Option Value} (R : Rep G B ((env, m) :: es) H h) (hml : ∀ x v, m x = some v →
    (env.kindOf x = some .local ∧ ∃ v', ml x = some v' ∧ abs v' = v) ∨ ((env.kindOf x = some .cell ∨ env.kindOf x = some .free) ∧ ∃ c v', env.cells.lookup x = some c ∧ h.IsCell c (some v') ∧ abs v' = v))
    (hx : env.kindOf x = some .local) (hn : h'.Ns env.locals (fun y => if y = x then some v else ml y)) (hs : Heap.SameBut env.locals h h') : Rep G B ((env, m.set x (abs v)) :: es) H h' := by
  refine R.reLocal (fun y w e => ?_) hn fun c o hc e => (hs.2 c hc).trans e
  dsimp only [AMap.set] at e ⊢
  split at e
  · rename_i q; subst q; cases e; exact .inl ⟨hx, v, by simp, rfl⟩
  · rename_i q
    rcases hml y w e with ⟨z1, v', z2, z3⟩ | z
    · exact .inl ⟨z1, v', by simp [q, z2], z3⟩
    · exact .inr z

theorem Rep.setCell {x : Str} {v : Value} {c : Addr} (R : Rep G B ((env, m) :: es) H h) (hx : env.kindOf x = some .cell) (hc : env.cells.lookup x = some c) (hL : env.locals < c)
    (hn : h'.IsCell c (some v)) (hs : Heap.SameBut c h h') : Rep G B ((env, m.set x (abs v)) :: es) H h' := by
  have F := R.head
  obtain ⟨v00, oc, ec, dc⟩ := F.cells x c hc
  have lne : ∀ p ∈ (env, m) :: es, p.1.locals ≠ c := by
    intro p hp q
    obtain ⟨o, _, _, y1, y2⟩ := (R.fr p hp).obj
    rw [q, ec] at y1; cases y1; rw [dc] at y2; cases y2
  have hk : ∀ b o, b ≠ c → h.get? b = some o → h'.get? b = some o := fun b o hb e => (hs.2 b hb).trans e
  refine ⟨fun b o e => hk b o (fun q => by rw [q, (R.free _ (.head _)).2 _ _ hc] at e; cases e) (R.keep b o e), R.base, fun p hp => ?_, R.apart, fun p hp => ?_, fun a o e => ?_⟩
  · rcases List.mem_cons.mp hp with rfl | hp
    · obtain ⟨ml, z1, z2⟩ := F.ns
      have cne : ∀ y c', env.cells.lookup y = some c' → y ≠ x → c' ≠ c := fun y c' e hy q => hy (name_of_addr F.apart (mem_of_lookup e) (q ▸ mem_of_lookup hc))
      refine ⟨F.kind, F.glob, F.bult, ⟨ml, z1.at' fun o e => hk _ o (lne _ (.head _)) e, fun y w e => ?_⟩, fun y c' e => ?_, F.apart⟩
      · dsimp only [AMap.set] at e ⊢
        split at e
        · rename_i q; subst q; cases e; exact .inr ⟨.inl hx, c, v, hc, hn, rfl⟩
        · rename_i q
          rcases z2 y w e with z | ⟨y1, c', v', y2, ⟨o, y3, y4⟩, y5⟩
          · exact .inl z
          · exact .inr ⟨y1, c', v', y2, ⟨o, hk c' o (cne y c' y2 q) y3, y4⟩, y5⟩
      · by_cases q : y = x
        · subst q; rw [hc] at e; cases e; exact ⟨_, hn⟩
        · obtain ⟨v0, o, y1, y2⟩ := F.cells y c' e
          exact ⟨v0, o, hk c' o (cne y c' e q) y1, y2⟩
    · have hlt := (R.apart.1 p.1 (List.mem_map.mpr ⟨p, hp, rfl⟩)).2
      exact (R.fr p (.tail _ hp)).change (fun o e => hk _ o (lne p (.tail _ hp)) e) fun y c' o e q => hk c' o (Nat.ne_of_lt (Nat.lt_trans (hlt y c' e) hL)) q
  · rcases List.mem_cons.mp hp with rfl | hp
    · exact R.free (env, m) (.head _)
    · exact R.free p (.tail _ hp)
  · refine (R.obj a o e).change (fun b oo q hb => hk b oo (fun z => ?_) q) (fun _ e => e) fun _ _ e => e
    rcases hb with rfl | ⟨hb, f, rfl⟩
    · rw [z, ec] at q; cases q
      rw [← z] at ec
      rcases (R.obj _ o e).data ec with ⟨_, _, y⟩ | y | ⟨_, y⟩ <;> (rw [dc] at y; cases y)
    · obtain ⟨C, dx, es', n, sl, y0, y1, y2, y3, y4, y5, y6, y7⟩ := R.obj _ _ e
      rw [succ_inj y0 hb, z, ec] at y3; cases y3; cases dc

theorem Rep.newList {vs : List V} {ws : List Value} {n : Nat} (R : Rep G B es H h) (hk : ∀ b o, h.get? b = some o → h'.get? b = some o) (ha : h.objs.size ≤ a) (ho : h'.get? a = some ⟨.type "list", none, .seq ws.toArray n, #[]⟩) (hw : ws.map abs = vs) (hl : vs.length ≤ 1000) :
    Rep G B es (H.upd a (.list vs)) h' := R.new (o := .list vs) hk ⟨R.freshB ha, hl, ws, n, ho, hw⟩
theorem Rep.newList' {vs : List V} {ws : List Value} {n : Nat} (R : Rep G B es H h) (hB : B a = none) (ho : h.get? a = some ⟨.type "list", none, .seq ws.toArray n, #[]⟩) (hw : ws.map abs = vs) (hl : vs.length ≤ 1000) :
    Rep G B es (H.upd a (.list vs)) h := R.new (o := .list vs) (fun _ _ e => e) ⟨hB, hl, ws, n, ho, hw⟩
theorem Rep.newTup {vs : List V} {ws : List Value} {n : Nat} (R : Rep G B es H h) (hk : ∀ b o, h.get? b = some o → h'.get? b = some o) (ha : h.objs.size ≤ a) (ho : h'.get? a = some ⟨.type "tuple", none, .seq ws.toArray n, #[]⟩) (hw : ws.map abs = vs) (hl : vs.length ≤ 1000) :
    Rep G B es (H.upd a (.tup vs)) h' := R.new (o := .tup vs) hk ⟨R.freshB ha, hl, ws, n, ho, hw⟩
noncomputable def setB (B : Addr → Option Obj) (I : Addr) (o : Obj) : Addr → Option Obj := fun b => if b = I then some o else B b
theorem Rep.pushB (R : Rep G B es H h) (oI : Obj) (hf : oI.isFreed = false) : Rep G (setB B h.objs.size oI) es H (h.push oI) := by
  have R' := R.push oI
  have hB : ∀ b, b < h.objs.size → setB B h.objs.size oI b = B b := fun b hb => if_neg (Nat.ne_of_lt hb)
  refine ⟨fun b o e => ?_, fun b o e => ?_, R'.fr, R'.apart, fun p hp => ?_, fun a o e => ?_⟩
  · unfold setB at e
    split at e
    · rename_i q; cases e; rw [q]; exact Heap.get?_push_size _ hf
    · exact R'.keep b o e
  · have hb := R.base b o e
    rw [hB b (Heap.lt_size (R.keep b o hb))]; exact hb
  · refine ⟨by rw [hB _ (R.fr p hp).lt]; exact (R.free p hp).1, fun x c e => by rw [hB _ ((R.fr p hp).cell_lt e)]; exact (R.free p hp).2 x c e⟩
  · have hlt := (R.obj a o e).lt
    cases o with
    | list vs => obtain ⟨x1, x2⟩ := R'.obj a _ e; exact ⟨by rw [hB _ hlt]; exact x1, x2⟩
    | tup vs => obtain ⟨x1, x2⟩ := R'.obj a _ e; exact ⟨by rw [hB _ hlt]; exact x1, x2⟩
    | script ns => exact R'.obj a _ e
    | board f =>
      obtain ⟨C, dx, es, n, sl, x0, x1, x2, x3, x4, x5, x6, x7⟩ := R'.obj a _ e
      exact ⟨C, dx, es, n, sl, x0, x1, x2, x3, by rw [hB _ hlt]; exact x4, by rw [hB _ (succ_lt x0 hlt)]; exact x5, x6, x7⟩
    | exc c => obtain ⟨x1, x2⟩ := R'.obj a _ e; exact ⟨by rw [hB _ hlt]; exact x1, x2⟩
theorem setB_none {I : Addr} {oI : Obj} (e : setB B I oI b = none) : b ≠ I ∧ B b = none := by
  unfold setB at e
  split at e
  · cases e
  · rename_i q; exact ⟨q, e⟩
theorem Rep.popB {I : Addr} {oI : Obj} (R : Rep G (setB B I oI) es H h) (hI : B I = none) (hb : ∀ b o, G.base.get? b = some o → B b = some o) : Rep G B es H h :=
  ⟨fun b o e => R.keep b o (by unfold setB; rw [if_neg (fun q => by rw [q, hI] at e; cases e)]; exact e), hb, R.fr, R.apart, fun p hp => ⟨(setB_none (R.free p hp).1).2, fun x c e => (setB_none ((R.free p hp).2 x c e)).2⟩,
    fun a o e => (R.obj a o e).change (fun _ _ e _ => e) (fun _ e => (setB_none e).2) fun _ _ e => e⟩
theorem Rep.turnB {I : Addr} {oI oI' : Obj} (R : Rep G (setB B I oI) es H h) (hI : B I = none) (hb : ∀ b o, G.base.get? b = some o → B b = some o) (hs : ∀ c o, c ≠ I → h.get? c = some o → h'.get? c = some o) (hI' : h'.get? I = some oI') : Rep G (setB B I oI') es H h' := by
  have ne : ∀ b, setB B I oI b = none → setB B I oI' b = none := fun b e => by
    obtain ⟨z1, z2⟩ := setB_none e
    unfold setB; rw [if_neg z1]; exact z2
  have bne : ∀ b o, G.base.get? b = some o → b ≠ I := fun b o e q => by have := hb b o e; rw [q, hI] at this; cases this
  refine ⟨fun b o e => ?_, fun b o e => ?_, fun p hp => ?_, R.apart, fun p hp => ⟨ne _ (R.free p hp).1, fun x c e => ne _ ((R.free p hp).2 x c e)⟩, fun a o e => ?_⟩
  · unfold setB at e
    split at e
    · rename_i q; cases e; rw [q]; exact hI'
    · rename_i q
      exact hs b o q (R.keep b o (by unfold setB; rw [if_neg q]; exact e))
  · unfold setB; rw [if_neg (bne b o e)]; exact hb b o e
  · exact (R.fr p hp).change (fun o e => hs _ o (setB_none (R.free p hp).1).1 e) fun x c o e q => hs c o (setB_none ((R.free p hp).2 x c e)).1 q
  · refine (R.obj a o e).change (fun c oo q hc => hs c oo (fun z => ?_) q) ne fun _ _ e => e
    have x := R.obj a o e
    cases o with
    | list vs =>
      rcases hc with rfl | ⟨_, f, hf⟩
      · exact (setB_none x.1).1 z
      · cases hf
    | tup vs =>
      rcases hc with rfl | ⟨_, f, hf⟩
      · exact (setB_none x.1).1 z
      · cases hf
    | script ns =>
      rcases hc with rfl | ⟨_, f, hf⟩
      · obtain ⟨⟨ob, hob⟩, _⟩ := x; exact bne _ _ hob z
      · cases hf
    | board f =>
      obtain ⟨C, dx, es, n, sl, x0, x1, x2, x3, x4, x5, x6, x7⟩ := x
      rcases hc with rfl | ⟨hc, _⟩
      · exact (setB_none x4).1 z
      · exact (setB_none x5).1 ((succ_inj x0 hc).trans z)
    | exc c =>
      rcases hc with rfl | ⟨_, f, hf⟩
      · exact (setB_none x.1).1 z
      · cases hf
end
end Mine
end
section
namespace Mine
open PySem PySem.W PySem.Calls PyProof.Rows

section
variable {G : Gd} {n : Nat} {hd : Bool} {env : Env} {m : AMap} {α β : Type} {H : AHeap} {x : XE}

/-- a tree in the frame env: every way ends as told -/
noncomputable def Ok (G : Gd) (n : Nat) (hd : Bool) (env : Env) (m : AMap) {α : Type} (t : Sem α) (H : AHeap) (k : α → AHeap → Prop) (x : XE) : Prop :=
  ∀ (A : Around) (fl : List Env) (B : Addr → Option Obj) (rest : List (Env × AMap)) (s : Shared), AOk A hd n fl → FlOk fl ((env, m) :: rest) → Rep G B ((env, m) :: rest) H s.heap →
    wpAny (model G.prog G.w) A t (NPost G B ((env, m) :: rest) s k) (XPost G B fl ((env, m) :: rest) s x) s

theorem NPost.at {B : Addr → Option Obj} {es : List (Env × AMap)} {s : Shared} {k : α → AHeap → Prop} {v : α} {h' : Heap} {tk : Nat} {H' : AHeap} (R : Rep G B es H' h') (hk : k v H') : NPost G B es s k v { s with heap := h', toks := tk } := ⟨h', tk, H', rfl, R, hk⟩
theorem NPost.trans {B : Addr → Option Obj} {es : List (Env × AMap)} {s : Shared} {h : Heap} {tk : Nat} {k : α → AHeap → Prop} {v : α} {s' : Shared} (p : NPost G B es { s with heap := h, toks := tk } k v s') : NPost G B es s k v s' := by
  obtain ⟨h', tk', H', rfl, r⟩ := p; exact ⟨h', tk', H', rfl, r⟩
theorem XPost.trans {B : Addr → Option Obj} {fl : List Env} {es : List (Env × AMap)} {s : Shared} {h : Heap} {tk : Nat} {v : Value} {s' : Shared} (p : XPost G B fl es { s with heap := h, toks := tk } x v s') : XPost G B fl es s x v s' := by
  obtain ⟨h', tk', H', a, c, rfl, rfl, r⟩ := p; exact ⟨h', tk', H', a, c, rfl, rfl, r⟩
theorem Ok.mono {t : Sem α} {k k' : α → AHeap → Prop} {x' : XE} (h : Ok G n hd env m t H k x) (hk : ∀ v H', k v H' → k' v H') (hx : ∀ c H', x c H' → x' c H') : Ok G n hd env m t H k' x' := by
  intro A fl B rest s ha hf R
  refine wpAny_mono (h A fl B rest s ha hf R) ?_ ?_
  · rintro v s' ⟨h', tk, H', e, R', q⟩; exact ⟨h', tk, H', e, R', hk _ _ q⟩
  · rintro v s' ⟨h', tk, H', a, c, e1, e2, R', f, q⟩; exact ⟨h', tk, H', a, c, e1, e2, R', f, hx _ _ q⟩
theorem Ok.pure {a : α} {k : α → AHeap → Prop} (h : k a H) : Ok G n hd env m (pure a) H k x := fun _ _ _ _ s _ _ R => wpAny_pure ⟨s.heap, s.toks, H, rfl, R, h⟩
/-- one tree behind another -/
theorem Ok.next {t : Sem α} {f : α → Sem β} {k : β → AHeap → Prop} {A : Around} {fl : List Env} {B : Addr → Option Obj} {rest : List (Env × AMap)} {s : Shared} (h : Ok G n hd env m t H (fun a H1 => Ok G n hd env m (f a) H1 k x) x)
    (ha : AOk A hd n fl) (hf : FlOk fl ((env, m) :: rest)) (R : Rep G B ((env, m) :: rest) H s.heap) :
    wpAny (model G.prog G.w) A t (fun a s1 => wpAny (model G.prog G.w) A (f a) (NPost G B ((env, m) :: rest) s k) (XPost G B fl ((env, m) :: rest) s x) s1) (XPost G B fl ((env, m) :: rest) s x) s := by
  refine wpAny_mono (h A fl B rest s ha hf R) ?_ fun _ _ e => e
  rintro a s1 ⟨h1, tk, H1, rfl, R1, q⟩
  exact wpAny_mono (q A fl B rest _ ha hf R1) (fun _ _ z => z.trans) fun _ _ z => z.trans
theorem Ok.bind {t : Sem α} {f : α → Sem β} {k : β → AHeap → Prop} (h : Ok G n hd env m t H (fun a H1 => Ok G n hd env m (f a) H1 k x) x) : Ok G n hd env m (t >>= f) H k x :=
  fun _ _ _ _ _ ha hf R => wpAny_bind (h.next ha hf R)
theorem ok_const {v : V} {c : Const} {kk : Nat} {pos : Pos} {k : V → AHeap → Prop} (hc : (∃ i, c = .int i ∧ v = .int i) ∨ (∃ i, c = .str i ∧ v = .str i) ∨ (∃ i, c = .bool i ∧ v = .bool i) ∨ (c = .none ∧ v = .none)) (h : k v H) :
    Ok G n hd env m (eval (.Constant c kk pos) env) H (fun v => k (abs v)) x := by
  intro A fl B rest s ha hf R
  rcases hc with ⟨i, rfl, rfl⟩ | ⟨i, rfl, rfl⟩ | ⟨i, rfl, rfl⟩ | ⟨rfl, rfl⟩
  · exact wpAny_Constant_int ⟨s.heap, _, H, rfl, R, h⟩
  · exact Constant_str ⟨s.heap, _, H, rfl, R, h⟩
  · exact Constant_bool ⟨s.heap, s.toks, H, rfl, R, h⟩
  · exact Constant_none ⟨s.heap, s.toks, H, rfl, R, h⟩

theorem ok_name {y : Str} {pos : Pos} {k : V → AHeap → Prop} {v : V} (hy : m y = some v) (h : k v H) (hd' : (y == ("__debug__" : Str)) = false) (hcd : (y == ("__classdict__" : Str)) = false) : Ok G n hd env m (eval (.Name y pos) env) H (fun v => k (abs v)) x := by
  intro A fl B rest s ha hf R
  refine wpAny_Name ?_ hd'
  obtain ⟨ml, z1, z2⟩ := R.head.ns
  rcases z2 y v hy with ⟨y1, v', y2, rfl⟩ | ⟨y1, c, v', y2, y3, rfl⟩
  · exact wpAny_loadName_local R.head.kind y1 z1 y2 ⟨s.heap, s.toks, H, rfl, R, h⟩
  · rcases y1 with y1 | y1
    · exact wpAny_loadName_cell R.head.kind y1 y2 y3 ⟨s.heap, s.toks, H, rfl, R, h⟩
    · exact wpAny_loadName_free R.head.kind y1 y2 y3 ⟨s.heap, s.toks, H, rfl, R, h⟩ hcd
end
end Mine
end
section
namespace Mine
open PySem PySem.W PySem.Calls PyProof.Rows

section
variable {G : Gd} {n : Nat} {hd : Bool} {env : Env} {m : AMap} {H : AHeap} {x : XE}

theorem mulOk_of {a b : Int} (h : MulOk a b) : IntMulOk a b := by
  rcases h with h | h | ⟨h1, h2⟩
  · exact .of_left (intBits_le_64 h.1 h.2)
  · exact .of_right (intBits_le_64 h.1 h.2)
  · have key : ∀ c : Int, Md c → Builtin.Int.intBits c ≤ 400 := by
      intro c hc
      unfold Builtin.Int.intBits
      split
      · exact Nat.zero_le _
      · rename_i hne
        have hn : c.natAbs < 2 ^ 399 := by
          have : c.natAbs < 10 ^ 100 := by unfold Md at hc; omega
          exact Nat.lt_trans this (by decide +kernel)
        have h0 : c.natAbs ≠ 0 := by simpa using hne
        have := (Nat.log2_lt h0).mpr hn
        omega
    have k1 := key a h1
    have k2 := key b h2
    unfold IntMulOk Builtin.Int.intTooBig bitsLine
    simp only [Bool.and_eq_true, decide_eq_true_eq, not_and]
    intro _
    omega

theorem opOf_ok {o : Op} {o' : Operator} {u v : V} {u' v' : Value} {k : V → AHeap → Prop} (ho : (o = .add ∧ o' = .Add) ∨ (o = .sub ∧ o' = .Sub) ∨ (o = .mul ∧ o' = .Mult) ∨ (o = .fdiv ∧ o' = .FloorDiv) ∨ (o = .mod ∧ o' = .Mod) ∨ (o = .pow ∧ o' = .Pow))
    (h : wpBin o u v H k) (hu : abs u' = u) (hv : abs v' = v) : Ok G n hd env m (binaryOp o' u' v') H (fun v => k (abs v)) x := by
  have hints : ∀ {a b : Int}, u = .int a → v = .int b → ∃ t t', u' = .int a t ∧ v' = .int b t' := by
    rintro a b rfl rfl
    obtain ⟨t, rfl⟩ := abs_int hu
    obtain ⟨t', rfl⟩ := abs_int hv
    exact ⟨t, t', rfl, rfl⟩
  intro A fl B rest s ha hf R
  unfold wpBin at h
  split at h
  · obtain ⟨t, t', rfl, rfl⟩ := hints rfl rfl
    rcases ho with ⟨h1, rfl⟩ | ⟨h1, rfl⟩ | ⟨h1, rfl⟩ | ⟨h1, rfl⟩ | ⟨h1, rfl⟩ | ⟨h1, rfl⟩ <;> cases h1
    exact PyProof.Rows.add_int ⟨s.heap, _, H, rfl, R, h⟩
  · obtain ⟨t, t', rfl, rfl⟩ := hints rfl rfl
    rcases ho with ⟨h1, rfl⟩ | ⟨h1, rfl⟩ | ⟨h1, rfl⟩ | ⟨h1, rfl⟩ | ⟨h1, rfl⟩ | ⟨h1, rfl⟩ <;> cases h1
    exact PyProof.Rows.sub_int ⟨s.heap, _, H, rfl, R, h⟩
  · obtain ⟨t, t', rfl, rfl⟩ := hints rfl rfl
    rcases ho with ⟨h1, rfl⟩ | ⟨h1, rfl⟩ | ⟨h1, rfl⟩ | ⟨h1, rfl⟩ | ⟨h1, rfl⟩ | ⟨h1, rfl⟩ <;> cases h1
    exact PyProof.Rows.mul_int ⟨s.heap, _, H, rfl, R, h.2⟩ (mulOk_of h.1)
  · rename_i a b
    obtain ⟨t, t', rfl, rfl⟩ := hints rfl rfl
    rcases ho with ⟨h1, rfl⟩ | ⟨h1, rfl⟩ | ⟨h1, rfl⟩ | ⟨h1, rfl⟩ | ⟨h1, rfl⟩ | ⟨h1, rfl⟩ <;> cases h1
    obtain ⟨hb, hb', h⟩ := h
    refine PyProof.Rows.floordiv_int (by omega) ⟨s.heap, _, H, rfl, R, ?_⟩ (Or.inl (PyProof.noPylong_of_log2 ?_))
    · rw [Int.fdiv_eq_ediv_of_nonneg _ (by omega)]; exact h
    · have hn : b.natAbs < 2 ^ 399 := by
        have : b.natAbs < 10 ^ 100 := by omega
        exact Nat.lt_trans this (by decide +kernel)
      have := (Nat.log2_lt (by omega)).mpr hn
      omega
  · rename_i a b
    obtain ⟨t, t', rfl, rfl⟩ := hints rfl rfl
    rcases ho with ⟨h1, rfl⟩ | ⟨h1, rfl⟩ | ⟨h1, rfl⟩ | ⟨h1, rfl⟩ | ⟨h1, rfl⟩ | ⟨h1, rfl⟩ <;> cases h1
    obtain ⟨hb, h⟩ := h
    refine mod_int' (by omega) ⟨s.heap, _, H, rfl, R, ?_⟩
    rw [Int.fmod_eq_emod_of_nonneg _ (by omega)]; exact h
  · rename_i a b
    obtain ⟨t, t', rfl, rfl⟩ := hints rfl rfl
    rcases ho with ⟨h1, rfl⟩ | ⟨h1, rfl⟩ | ⟨h1, rfl⟩ | ⟨h1, rfl⟩ | ⟨h1, rfl⟩ | ⟨h1, rfl⟩ <;> cases h1
    obtain ⟨hb, hb', hs, h⟩ := h
    exact pow_int_small hb (by omega) (by unfold Sm at hs; omega) ⟨s.heap, _, H, rfl, R, h⟩
  · obtain rfl := abs_ref hu
    obtain rfl := abs_ref hv
    rcases ho with ⟨h1, rfl⟩ | ⟨h1, rfl⟩ | ⟨h1, rfl⟩ | ⟨h1, rfl⟩ | ⟨h1, rfl⟩ | ⟨h1, rfl⟩ <;> cases h1
    obtain ⟨us, vs, h1, h2, h3, h4⟩ := h
    obtain ⟨_, _, ws, nn, x3, x4⟩ := R.obj _ _ h1
    obtain ⟨_, _, ws', nn', y3, y4⟩ := R.obj _ _ h2
    have l1 : ws.length = us.length := by rw [← x4, List.length_map]
    have l2 : ws'.length = vs.length := by rw [← y4, List.length_map]
    have e : ws.toArray ++ ws'.toArray = (ws ++ ws').toArray := by simp
    refine PySem.P.add_list x3 y3 ⟨_, s.toks, _, rfl, R.newList (a := s.heap.objs.size) (ws := ws ++ ws') (n := 0) (vs := us ++ vs) (fun _ _ e => Heap.get?_push_of_some _ e) (Nat.le_refl _) ?_ ?_ ?_, h4 _ (R.fresh (Nat.le_refl _))⟩ ?_
    · rw [Heap.get?_push_size _ rfl, e]
    · rw [List.map_append, x4, y4]
    · rw [List.length_append]; exact h3
    · simp only [List.size_toArray, l1, l2, sizeLine_eq]; omega
  · exact h.elim

theorem truth_ok {u : V} {u' : Value} {k : Bool → AHeap → Prop} (h : wpTruth u fun b => k b H) (hu : abs u' = u) : Ok G n hd env m (truthy u') H k x := by
  intro A fl B rest s ha hf R
  unfold wpTruth at h
  split at h
  · obtain rfl := abs_bool hu; exact wpAny_truthy_bool ⟨s.heap, s.toks, H, rfl, R, h⟩
  · rename_i i
    obtain ⟨t, rfl⟩ := abs_int hu
    refine PyProof.Rows.truthy_int ⟨s.heap, s.toks, H, rfl, R, ?_⟩
    have : (i != 0) = decide (i ≠ 0) := by by_cases hi : i = 0 <;> simp [hi]
    rw [this]; exact h
  · obtain rfl := abs_none hu; exact PyProof.Rows.truthy_none ⟨s.heap, s.toks, H, rfl, R, h⟩
  · exact h.elim

/-- an abstract value is the datum that the heap bears -/
theorem adata_reads {B : Addr → Option Obj} {es : List (Env × AMap)} {h : Heap} (R : Rep G B es H h) : ∀ (j : Nat) (v : Value) (d : PyData), adata H j (abs v) = some d → ∃ as, Reads h v d as
  | j, v, d, e => by
    cases v with
    | none => simp only [abs, adata] at e; cases e; exact ⟨_, .none⟩
    | bool b => simp only [abs, adata] at e; cases e; exact ⟨_, .bool b⟩
    | int i t => simp only [abs, adata] at e; cases e; exact ⟨_, .int i t⟩
    | str i t =>
      simp only [abs, adata] at e
      split at e <;> cases e
      exact ⟨_, .str i t⟩
    | ref a =>
      cases j with
      | zero => simp [abs, adata] at e
      | succ j =>
        have all : ∀ (ws : List Value) (ds : List PyData), (ws.map abs).mapM (adata H j) = some ds → ∃ as, ReadsAll h ws ds as := by
          intro ws
          induction ws with
          | nil => intro ds e; simp at e; subst e; exact ⟨_, .nil⟩
          | cons w ws ih =>
            intro ds e
            rw [List.map_cons, List.mapM_cons] at e
            simp only [Option.bind_eq_bind, Option.bind_eq_some_iff, Option.pure_def, Option.some.injEq] at e
            obtain ⟨d1, e1, d2, e2, rfl⟩ := e
            obtain ⟨as, r1⟩ := adata_reads R j w d1 e1
            obtain ⟨bs, r2⟩ := ih d2 e2
            exact ⟨_, .cons r1 r2⟩
        simp only [abs, adata] at e
        split at e
        · rename_i vs hH
          obtain ⟨ds, e1, rfl⟩ := Option.map_eq_some_iff.mp e
          obtain ⟨_, _, ws, nn, x3, rfl⟩ := R.obj _ _ hH
          obtain ⟨as, r⟩ := all ws ds e1
          exact ⟨_, .list x3 rfl rfl (by simpa using r)⟩
        · rename_i vs hH
          obtain ⟨ds, e1, rfl⟩ := Option.map_eq_some_iff.mp e
          obtain ⟨_, _, ws, nn, x3, rfl⟩ := R.obj _ _ hH
          obtain ⟨as, r⟩ := all ws ds e1
          exact ⟨_, .tuple x3 rfl rfl (by simpa using r)⟩
        · cases e
    | _ => simp [abs, adata] at e
theorem adata_shaped : ∀ (j : Nat) (v : V) (d : PyData), adata H j v = some d → d.canLay0 = true ∧ d.depth ≤ j + 1
  | j, v, d, e => by
    cases v with
    | none => simp only [adata] at e; cases e; exact ⟨by simp [PyData.canLay0], by simp [PyData.depth]⟩
    | bool b => simp only [adata] at e; cases e; exact ⟨by simp [PyData.canLay0], by simp [PyData.depth]⟩
    | int i => simp only [adata] at e; cases e; exact ⟨by simp [PyData.canLay0], by simp [PyData.depth]⟩
    | str i =>
      simp only [adata] at e
      split at e <;> cases e
      rename_i hs
      exact ⟨by simp [PyData.canLay0, hs], by simp [PyData.depth]⟩
    | ref a =>
      cases j with
      | zero => simp [adata] at e
      | succ j =>
        have all : ∀ (ws : List V) (ds : List PyData), ws.mapM (adata H j) = some ds → PyData.canLayAll0 ds = true ∧ PyData.depthAll ds ≤ j + 1 := by
          intro ws
          induction ws with
          | nil => intro ds e; simp at e; subst e; exact ⟨by simp [PyData.canLayAll0], by simp [PyData.depthAll]⟩
          | cons w ws ih =>
            intro ds e
            rw [List.mapM_cons] at e
            simp only [Option.bind_eq_bind, Option.bind_eq_some_iff, Option.pure_def, Option.some.injEq] at e
            obtain ⟨d1, e1, d2, e2, rfl⟩ := e
            obtain ⟨r1, r1'⟩ := adata_shaped j w d1 e1
            obtain ⟨r2, r2'⟩ := ih d2 e2
            exact ⟨by simp [PyData.canLayAll0, r1, r2], by simp only [PyData.depthAll]; omega⟩
        simp only [adata] at e
        split at e
        · obtain ⟨ds, e1, rfl⟩ := Option.map_eq_some_iff.mp e
          obtain ⟨r1, r2⟩ := all _ ds e1
          exact ⟨by simp [PyData.canLay0, r1], by simp only [PyData.depth]; omega⟩
        · obtain ⟨ds, e1, rfl⟩ := Option.map_eq_some_iff.mp e
          obtain ⟨r1, r2⟩ := all _ ds e1
          exact ⟨by simp [PyData.canLay0, r1], by simp only [PyData.depth]; omega⟩
        · cases e
    | other w => simp [adata] at e
end
end Mine
end
section
namespace Mine
open PySem PySem.W PySem.Calls PyProof.Rows

section
variable {G : Gd} {n : Nat} {hd : Bool} {env : Env} {m : AMap} {H : AHeap} {x : XE}

theorem shaped_of {j : Nat} {v : V} {d : PyData} (e : adata H j v = some d) (hj : j ≤ 60) : SeqAt.shaped d = true := by
  obtain ⟨a, b⟩ := adata_shaped j v d e
  unfold SeqAt.shaped
  rw [a, Bool.true_and]
  exact decide_eq_true (by omega)

theorem vbool_beq (a b : Bool) : (Value.bool a == Value.bool b) = (a == b) := by cases a <;> cases b <;> decide
theorem cmOf_ok {o : Cm} {o' : CmpOp} {u v : V} {u' v' : Value} {k : Bool → AHeap → Prop}
    (ho : (o = .lt ∧ o' = .Lt) ∨ (o = .le ∧ o' = .LtE) ∨ (o = .gt ∧ o' = .Gt) ∨ (o = .ge ∧ o' = .GtE) ∨ (o = .eq ∧ o' = .Eq) ∨ (o = .ne ∧ o' = .NotEq) ∨ (o = .is ∧ o' = .Is) ∨ (o = .isNot ∧ o' = .IsNot))
    (h : wpCmp o u v H fun b => k b H) (hu : abs u' = u) (hv : abs v' = v) : Ok G n hd env m (compareOp o' u' v') H (fun r H' => ∃ b, r = .bool b ∧ k b H') x := by
  have hints : ∀ {a b : Int}, u = .int a → v = .int b → ∃ t t', u' = .int a t ∧ v' = .int b t' := by
    rintro a b rfl rfl
    obtain ⟨t, rfl⟩ := abs_int hu
    obtain ⟨t', rfl⟩ := abs_int hv
    exact ⟨t, t', rfl, rfl⟩
  intro A fl B rest s ha hf R
  have hroom : A.units + 64 < cLine := by have := ha.units; rw [cLine_is]; omega
  unfold wpCmp at h
  split at h
  · obtain ⟨t, t', rfl, rfl⟩ := hints rfl rfl
    rcases ho with ⟨h1, rfl⟩ | ⟨h1, rfl⟩ | ⟨h1, rfl⟩ | ⟨h1, rfl⟩ | ⟨h1, rfl⟩ | ⟨h1, rfl⟩ | ⟨h1, rfl⟩ | ⟨h1, rfl⟩ <;> cases h1
    exact PyProof.Rows.lt_int ⟨s.heap, s.toks, H, rfl, R, _, rfl, h⟩
  · obtain ⟨t, t', rfl, rfl⟩ := hints rfl rfl
    rcases ho with ⟨h1, rfl⟩ | ⟨h1, rfl⟩ | ⟨h1, rfl⟩ | ⟨h1, rfl⟩ | ⟨h1, rfl⟩ | ⟨h1, rfl⟩ | ⟨h1, rfl⟩ | ⟨h1, rfl⟩ <;> cases h1
    exact PyProof.Rows.le_int ⟨s.heap, s.toks, H, rfl, R, _, rfl, h⟩
  · obtain ⟨t, t', rfl, rfl⟩ := hints rfl rfl
    rcases ho with ⟨h1, rfl⟩ | ⟨h1, rfl⟩ | ⟨h1, rfl⟩ | ⟨h1, rfl⟩ | ⟨h1, rfl⟩ | ⟨h1, rfl⟩ | ⟨h1, rfl⟩ | ⟨h1, rfl⟩ <;> cases h1
    exact PyProof.Rows.gt_int ⟨s.heap, s.toks, H, rfl, R, _, rfl, h⟩
  · obtain ⟨t, t', rfl, rfl⟩ := hints rfl rfl
    rcases ho with ⟨h1, rfl⟩ | ⟨h1, rfl⟩ | ⟨h1, rfl⟩ | ⟨h1, rfl⟩ | ⟨h1, rfl⟩ | ⟨h1, rfl⟩ | ⟨h1, rfl⟩ | ⟨h1, rfl⟩ <;> cases h1
    exact PyProof.Rows.ge_int ⟨s.heap, s.toks, H, rfl, R, _, rfl, h⟩
  · rename_i a b
    obtain ⟨t, t', rfl, rfl⟩ := hints rfl rfl
    rcases ho with ⟨h1, rfl⟩ | ⟨h1, rfl⟩ | ⟨h1, rfl⟩ | ⟨h1, rfl⟩ | ⟨h1, rfl⟩ | ⟨h1, rfl⟩ | ⟨h1, rfl⟩ | ⟨h1, rfl⟩ <;> cases h1
    refine PyProof.Rows.eq_int ⟨s.heap, s.toks, H, rfl, R, _, rfl, ?_⟩
    have : (a == b) = decide (a = b) := by by_cases q : a = b <;> simp [q]
    rw [this]; exact h
  · rename_i a b
    obtain ⟨t, t', rfl, rfl⟩ := hints rfl rfl
    rcases ho with ⟨h1, rfl⟩ | ⟨h1, rfl⟩ | ⟨h1, rfl⟩ | ⟨h1, rfl⟩ | ⟨h1, rfl⟩ | ⟨h1, rfl⟩ | ⟨h1, rfl⟩ | ⟨h1, rfl⟩ <;> cases h1
    refine PyProof.Rows.ne_int ⟨s.heap, s.toks, H, rfl, R, _, rfl, ?_⟩
    have : (a != b) = !decide (a = b) := by by_cases q : a = b <;> simp [q]
    rw [this]; exact h
  · rcases ho with ⟨h1, rfl⟩ | ⟨h1, rfl⟩ | ⟨h1, rfl⟩ | ⟨h1, rfl⟩ | ⟨h1, rfl⟩ | ⟨h1, rfl⟩ | ⟨h1, rfl⟩ | ⟨h1, rfl⟩ <;> cases h1
    obtain ⟨d, e, e1, e2, h⟩ := h
    rw [← hu] at e1; rw [← hv] at e2
    obtain ⟨as, r1⟩ := adata_reads R 3 u' d e1
    obtain ⟨bs, r2⟩ := adata_reads R 3 v' e e2
    exact eq_dataH r1 r2 (shaped_of e1 (by decide)) (shaped_of e2 (by decide)) hroom ⟨s.heap, s.toks, H, rfl, R, _, rfl, h⟩
  · rcases ho with ⟨h1, rfl⟩ | ⟨h1, rfl⟩ | ⟨h1, rfl⟩ | ⟨h1, rfl⟩ | ⟨h1, rfl⟩ | ⟨h1, rfl⟩ | ⟨h1, rfl⟩ | ⟨h1, rfl⟩ <;> cases h1
    obtain ⟨d, e, e1, e2, h⟩ := h
    rw [← hu] at e1; rw [← hv] at e2
    obtain ⟨as, r1⟩ := adata_reads R 3 u' d e1
    obtain ⟨bs, r2⟩ := adata_reads R 3 v' e e2
    exact ne_dataH r1 r2 (shaped_of e1 (by decide)) (shaped_of e2 (by decide)) hroom ⟨s.heap, s.toks, H, rfl, R, _, rfl, h⟩
  all_goals first
    | exact h.elim
    | (rcases ho with ⟨h1, rfl⟩ | ⟨h1, rfl⟩ | ⟨h1, rfl⟩ | ⟨h1, rfl⟩ | ⟨h1, rfl⟩ | ⟨h1, rfl⟩ | ⟨h1, rfl⟩ | ⟨h1, rfl⟩ <;> cases h1
       cases u' <;> simp [abs] at hu <;> cases v' <;> simp [abs] at hv <;> (try subst hu) <;> (try subst hv) <;> first
        | exact wpAny_is_plain rfl ⟨s.heap, s.toks, H, rfl, R, _, rfl, h⟩
        | exact wpAny_isNot_plain rfl ⟨s.heap, s.toks, H, rfl, R, _, rfl, h⟩
        | exact wpAny_is_other rfl (by intro q; cases q) ⟨s.heap, s.toks, H, rfl, R, _, rfl, h⟩
        | exact wpAny_isNot_other rfl (by intro q; cases q) ⟨s.heap, s.toks, H, rfl, R, _, rfl, h⟩
        | exact wpAny_is_plain rfl ⟨s.heap, s.toks, H, rfl, R, _, rfl, by rw [vbool_beq]; exact h⟩
        | exact wpAny_isNot_plain rfl ⟨s.heap, s.toks, H, rfl, R, _, rfl, by rw [vbool_beq]; exact h⟩)
theorem is_ok {u : V} {u' : Value} {c : Str} {k : Bool → AHeap → Prop} (h : wpIs G u c H fun b => k b H) (hu : abs u' = u) (hc : ∀ d, u ≠ .ref d ∨ ∀ e, H d ≠ some (.exc e)) :
    ∃ T : String, c = T ∧ (T = "int" ∨ T = "bool" ∨ T = "list" ∨ T = "tuple") ∧ Ok G n hd env m (call (.builtin "isinstance") [u', .type T]) H (fun r H' => ∃ b, r = .bool b ∧ k b H') x := by
  have fin : ∀ {T : String} {b : Bool}, k b H → (∀ (A : Around) (s : Shared) (Q : Value → Shared → Prop) (E : Value → Shared → Prop) (B : Addr → Option Obj) (es : List (Env × AMap)), Rep G B es H s.heap → (∀ tk, Q (.bool b) { s with toks := tk }) → wpAny (model G.prog G.w) A (call (.builtin "isinstance") [u', .type T]) Q E s) →
      Ok G n hd env m (call (.builtin "isinstance") [u', .type T]) H (fun r H' => ∃ b, r = .bool b ∧ k b H') x := by
    intro T b hk hw A fl B rest s ha hf R
    exact hw A s _ _ B _ R fun tk => ⟨s.heap, tk, H, rfl, R, _, rfl, hk⟩
  unfold wpIs at h
  split at h
  · obtain ⟨t, rfl⟩ := abs_int hu
    rcases h with ⟨rfl, h⟩ | ⟨rfl, h⟩ | ⟨rfl, h⟩ | ⟨rfl, h⟩
    · exact ⟨"int", rfl, by simp, fin h fun A s Q E B es R hq => IsiPair.int_int (hq s.toks)⟩
    · exact ⟨"bool", rfl, by simp, fin h fun A s Q E B es R hq => IsiPair.int_bool (hq _)⟩
    · exact ⟨"list", rfl, by simp, fin h fun A s Q E B es R hq => IsiPair.int_list (hq _)⟩
    · exact ⟨"tuple", rfl, by simp, fin h fun A s Q E B es R hq => IsiPair.int_tuple (hq _)⟩
  · obtain rfl := abs_bool hu
    rcases h with ⟨rfl, h⟩ | ⟨rfl, h⟩ | ⟨rfl, h⟩ | ⟨rfl, h⟩
    · exact ⟨"int", rfl, by simp, fin h fun A s Q E B es R hq => IsiPair.bool_int (hq s.toks)⟩
    · exact ⟨"bool", rfl, by simp, fin h fun A s Q E B es R hq => IsiPair.bool_bool (hq s.toks)⟩
    · exact ⟨"list", rfl, by simp, fin h fun A s Q E B es R hq => IsiPair.bool_list (hq _)⟩
    · exact ⟨"tuple", rfl, by simp, fin h fun A s Q E B es R hq => IsiPair.bool_tuple (hq _)⟩
  · obtain ⟨t, rfl⟩ := abs_str hu
    rcases h with ⟨rfl, h⟩ | ⟨rfl, h⟩ | ⟨rfl, h⟩ | ⟨rfl, h⟩
    · exact ⟨"int", rfl, by simp, fin h fun A s Q E B es R hq => IsiPair.str_int (hq _)⟩
    · exact ⟨"bool", rfl, by simp, fin h fun A s Q E B es R hq => IsiPair.str_bool (hq _)⟩
    · exact ⟨"list", rfl, by simp, fin h fun A s Q E B es R hq => IsiPair.str_list (hq _)⟩
    · exact ⟨"tuple", rfl, by simp, fin h fun A s Q E B es R hq => IsiPair.str_tuple (hq _)⟩
  · rename_i a
    obtain rfl := abs_ref hu
    split at h
    · rename_i vs hH
      rcases h with ⟨rfl, h⟩ | ⟨rfl, h⟩ | ⟨rfl, h⟩ | ⟨rfl, h⟩
      · exact ⟨"int", rfl, by simp, fin h fun A s Q E B es R hq => by obtain ⟨_, _, ws, nn, x3, _⟩ := R.obj _ _ hH; exact IsiPair.list_int x3 rfl (hq _)⟩
      · exact ⟨"bool", rfl, by simp, fin h fun A s Q E B es R hq => by obtain ⟨_, _, ws, nn, x3, _⟩ := R.obj _ _ hH; exact IsiPair.list_bool x3 rfl (hq _)⟩
      · exact ⟨"list", rfl, by simp, fin h fun A s Q E B es R hq => by obtain ⟨_, _, ws, nn, x3, _⟩ := R.obj _ _ hH; exact IsiPair.list_list x3 rfl (hq s.toks)⟩
      · exact ⟨"tuple", rfl, by simp, fin h fun A s Q E B es R hq => by obtain ⟨_, _, ws, nn, x3, _⟩ := R.obj _ _ hH; exact IsiPair.list_tuple x3 rfl (hq _)⟩
    · rename_i vs hH
      rcases h with ⟨rfl, h⟩ | ⟨rfl, h⟩ | ⟨rfl, h⟩ | ⟨rfl, h⟩
      · exact ⟨"int", rfl, by simp, fin h fun A s Q E B es R hq => by obtain ⟨_, _, ws, nn, x3, _⟩ := R.obj _ _ hH; exact IsiPair.tuple_int x3 rfl (hq _)⟩
      · exact ⟨"bool", rfl, by simp, fin h fun A s Q E B es R hq => by obtain ⟨_, _, ws, nn, x3, _⟩ := R.obj _ _ hH; exact IsiPair.tuple_bool x3 rfl (hq _)⟩
      · exact ⟨"list", rfl, by simp, fin h fun A s Q E B es R hq => by obtain ⟨_, _, ws, nn, x3, _⟩ := R.obj _ _ hH; exact IsiPair.tuple_list x3 rfl (hq _)⟩
      · exact ⟨"tuple", rfl, by simp, fin h fun A s Q E B es R hq => by obtain ⟨_, _, ws, nn, x3, _⟩ := R.obj _ _ hH; exact IsiPair.tuple_tuple x3 rfl (hq s.toks)⟩
    · rename_i e hH
      rcases hc a with q | q
      · exact absurd rfl q
      · exact absurd hH (q e)
    · exact h.elim
  · exact h.elim

end
end Mine
end
section
namespace Mine
open PySem PySem.W PySem.Calls PyProof.Rows

section
variable {G : Gd} {n : Nat} {hd : Bool} {env : Env} {m : AMap} {H : AHeap} {x : XE}

theorem list_new_ok {ws : List Value} {vs : List V} {k : V → AHeap → Prop} (hw : ws.map abs = vs) (hl : vs.length ≤ 1000) (h : ∀ c, H c = none → k (.ref c) (H.upd c (.list vs))) : Ok G n hd env m (newList ws) H (fun v => k (abs v)) x := by
  intro A fl B rest s ha hf R
  have l1 : ws.length = vs.length := by rw [← hw, List.length_map]
  refine wpAny_newObj_type ⟨_, s.toks, _, rfl, R.newList (a := s.heap.objs.size) (ws := ws) (n := 0) (vs := vs) (fun _ _ e => Heap.get?_push_of_some _ e) (Nat.le_refl _) (Heap.get?_push_size _ rfl) hw hl, h _ (R.fresh (Nat.le_refl _))⟩ ?_
  show ws.toArray.size ≤ sizeLine
  rw [List.size_toArray, l1, sizeLine_eq]; omega
theorem tup_new_ok {ws : List Value} {vs : List V} {k : V → AHeap → Prop} (hw : ws.map abs = vs) (hl : vs.length ≤ 1000) (h : ∀ c, H c = none → k (.ref c) (H.upd c (.tup vs))) : Ok G n hd env m (newTuple ws) H (fun v => k (abs v)) x := by
  intro A fl B rest s ha hf R
  have l1 : ws.length = vs.length := by rw [← hw, List.length_map]
  refine wpAny_newObj_type ⟨_, s.toks, _, rfl, R.newTup (a := s.heap.objs.size) (ws := ws) (n := 0) (vs := vs) (fun _ _ e => Heap.get?_push_of_some _ e) (Nat.le_refl _) (Heap.get?_push_size _ rfl) hw hl, h _ (R.fresh (Nat.le_refl _))⟩ ?_
  show ws.toArray.size ≤ sizeLine
  rw [List.size_toArray, l1, sizeLine_eq]; omega

/-- the ledger form of a frame, whole -/
theorem frnews {h : Heap} {L : Nat} {ml : Str → Option Value} (hn : h.Ns L ml) : ∃ h₀ news, Fr h₀ L h ml ∧ News h₀ L h news ∧ ∀ b o, b ≠ L → h.get? b = some o → h₀.get? b = some o ∨ (b, o) ∈ news := by
  refine ⟨⟨h.objs.extract 0 L, h.life⟩, (List.range h.objs.size).filterMap (fun b => if L < b then (h.get? b).map (fun o => (b, o)) else none), ⟨hn, fun (b : Nat) o e => ?_, ?_⟩, fun p hp => ?_, fun (b : Nat) o hb e => ?_⟩
  · obtain ⟨e1, e2⟩ := Heap.get?_some_iff.mp e
    refine Heap.get?_some_iff.mpr ⟨?_, e2⟩
    simp only [Array.getElem?_extract] at e1
    split at e1
    · simpa using e1
    · cases e1
  · show (h.objs.extract 0 L).size ≤ L
    rw [Array.size_extract]; exact Nat.le_trans (Nat.sub_le _ _) (Nat.min_le_left _ _)
  · obtain ⟨b, hb, hp⟩ := List.mem_filterMap.mp hp
    split at hp
    · rename_i hlt
      have hlt' : (L : Nat) < (b : Nat) := hlt
      obtain ⟨o, e, rfl⟩ := Option.map_eq_some_iff.mp hp
      refine ⟨e, Nat.ne_of_gt hlt, ?_⟩
      cases q : (⟨h.objs.extract 0 L, h.life⟩ : Heap).get? b with
      | none => rfl
      | some o' =>
        have h1 : (b : Nat) < (h.objs.extract 0 L).size := Heap.lt_size q
        rw [Array.size_extract] at h1
        exact absurd (Nat.lt_of_lt_of_le h1 (Nat.le_trans (Nat.sub_le _ _) (Nat.min_le_left _ _))) (Nat.not_lt.mpr (Nat.le_of_lt hlt'))
    · cases hp
  · have hlt := Heap.lt_size e
    by_cases hc : b < L
    · left
      obtain ⟨e1, e2⟩ := Heap.get?_some_iff.mp e
      refine Heap.get?_some_iff.mpr ⟨?_, e2⟩
      simp only [Array.getElem?_extract]
      have hsz : (b : Nat) < h.objs.size := hlt
      rw [if_pos (by have := hc; omega)]
      simpa using e1
    · right
      refine List.mem_filterMap.mpr ⟨b, List.mem_range.mpr hlt, ?_⟩
      have : L < b := by
        have := Nat.lt_or_eq_of_le (Nat.not_lt.mp hc)
        rcases this with z | z
        · exact z
        · exact absurd z.symm hb
      rw [if_pos this, e]; rfl

theorem ints_of {ws : List Value} {ns : List Int} (h : ws.map abs = ns.map V.int) : IntsAre ws ns := by
  induction ws generalizing ns with
  | nil => cases ns with
    | nil => exact .nil
    | cons _ _ => simp at h
  | cons w ws ih => cases ns with
    | nil => simp at h
    | cons i ns =>
      simp only [List.map_cons, List.cons.injEq] at h
      obtain ⟨t, rfl⟩ := abs_int h.1
      exact .cons i t (ih h.2)
theorem of_ints {ws : List Value} {ns : List Int} (h : IntsAre ws ns) : ws.map abs = ns.map V.int := by
  induction h with
  | nil => rfl
  | cons i t _ ih => simp [abs, ih]

/-- where a name of the built-ins leads -/
noncomputable def biVal (f : Str) : Option Value := if f = "len" then some (.builtin "len") else if f = "abs" then some (.builtin "abs") else if f = "min" then some (.builtin "min") else if f = "max" then some (.builtin "max") else if f = "sorted" then some (.builtin "sorted")
  else if f = "list" then some (.type "list") else if f = "int" then some (.type "int") else none

theorem bi_ok {f : Str} {vs : List V} {ws : List Value} {k : V → AHeap → Prop} (h : wpBi hd f vs H k) (hw : ws.map abs = vs) : ∃ fv, biVal f = some fv ∧ Ok G n hd env m (call fv ws) H (fun v => k (abs v)) x := by
  unfold wpBi at h
  split at h
  · rename_i a
    obtain ⟨w, rfl, hw1⟩ : ∃ w, ws = [w] ∧ abs w = .ref a := by
      cases ws with
      | nil => simp at hw
      | cons w r => cases r with
        | nil => exact ⟨w, rfl, by simpa using hw⟩
        | cons _ _ => simp at hw
    obtain rfl := abs_ref hw1
    split at h
    · rename_i us hH
      rcases h with ⟨rfl, h⟩ | ⟨rfl, h⟩ | ⟨rfl, hhd, ns, rfl, hlt, h⟩
      · refine ⟨.builtin "len", rfl, fun A fl B rest s ha hf R => ?_⟩
        obtain ⟨_, x2, ws, nn, x3, x4⟩ := R.obj _ _ hH
        have l1 : ws.length = us.length := by rw [← x4, List.length_map]
        refine call_len_list (items := ws.toArray) ⟨_, x3, rfl, nn, rfl⟩ (by simp; omega) ⟨s.heap, _, H, rfl, R, ?_⟩
        show k (.int ((ws.toArray.size : Nat) : Int)) H
        rw [List.size_toArray, l1]; exact h
      · refine ⟨.type "list", rfl, fun A fl B rest s ha hf R => ?_⟩
        obtain ⟨_, x2, ws, nn, x3, x4⟩ := R.obj _ _ hH
        have l1 : ws.length = us.length := by rw [← x4, List.length_map]
        refine call_list_seq a (.inl rfl) x3 rfl rfl (fun h' c' hk ho => ⟨h', s.toks, _, rfl, R.newList (a := s.heap.objs.size) hk (Nat.le_refl _) ho x4 x2, h _ (R.fresh (Nat.le_refl _))⟩) ?_
        rw [List.size_toArray, l1, sizeLine_eq]; omega
      · refine ⟨.builtin "sorted", rfl, fun A fl B rest s ha hf R => ?_⟩
        obtain ⟨_, x2, ws, nn, x3, x4⟩ := R.obj _ _ hH
        obtain ⟨ml, z1, z2⟩ := R.head.ns
        obtain ⟨h₀, news, F, N, hall⟩ := frnews z1
        refine kso_sorted F N (l := a) (vs := ws) (ns := ns) ⟨_, x3, rfl, nn, rfl⟩ (ints_of x4) hlt fun D ws' ns' c h' F' N' hnew hi hlen hperm hpw _ => ?_
        have hk : ∀ b o, b ≠ env.locals → s.heap.get? b = some o → h'.get? b = some o := by
          intro b o hb e
          rcases hall b o hb e with q | q
          · exact F'.keep b o q
          · exact (N' _ (.tail _ q)).1
        have R' := R.reLocal z2 F'.ns hk
        have hD : s.heap.get? D = none := by
          cases q : s.heap.get? D with
          | none => rfl
          | some o =>
            have hN := N' (D, _) (.head _)
            rcases hall D o hN.2.1 q with z | z
            · rw [hN.2.2] at z; cases z
            · exact absurd (hnew _ z) (Nat.lt_irrefl _)
        exact ⟨h', s.toks, _, rfl, R'.newList' (R.freshB' hD) (N' (D, _) (.head _)).1 (of_ints hi) (by rw [List.length_map, hlen]; omega), h D ns' (R.fresh' hD) hperm hpw⟩
    · rename_i us hH
      obtain ⟨rfl, h⟩ := h
      refine ⟨.builtin "len", rfl, fun A fl B rest s ha hf R => ?_⟩
      obtain ⟨_, x2, ws, nn, x3, x4⟩ := R.obj _ _ hH
      have l1 : ws.length = us.length := by rw [← x4, List.length_map]
      refine PySem.P.len_tuple (items := ws.toArray) x3 (by simp; omega) ⟨s.heap, _, H, rfl, R, ?_⟩
      show k (.int ((ws.toArray.size : Nat) : Int)) H
      rw [List.size_toArray, l1]; exact h
    · rename_i us hH
      obtain ⟨rfl, h⟩ := h
      refine ⟨.builtin "len", rfl, fun A fl B rest s ha hf R => ?_⟩
      obtain ⟨_, x2, ws, x3, x4⟩ := R.obj _ _ hH
      have l1 : ws.length = us.length := by have := congrArg List.length x4; simpa using this
      refine call_len_list (items := ws.toArray) x3 (by simp; omega) ⟨s.heap, _, H, rfl, R, ?_⟩
      show k (.int ((ws.toArray.size : Nat) : Int)) H
      rw [List.size_toArray, l1]; exact h
    · exact h.elim
  · rename_i i
    obtain ⟨w, rfl, hw1⟩ : ∃ w, ws = [w] ∧ abs w = .int i := by
      cases ws with
      | nil => simp at hw
      | cons w r => cases r with
        | nil => exact ⟨w, rfl, by simpa using hw⟩
        | cons _ _ => simp at hw
    obtain ⟨t, rfl⟩ := abs_int hw1
    rcases h with ⟨rfl, h⟩ | ⟨rfl, h⟩
    · refine ⟨.builtin "abs", rfl, fun A fl B rest s ha hf R => ?_⟩
      refine call_abs_int fun u tk => ⟨s.heap, tk, H, rfl, R, ?_⟩
      have : (if i < 0 then -i else i) = (i.natAbs : Int) := by split <;> omega
      rw [this]; exact h
    · exact ⟨.type "int", rfl, fun A fl B rest s ha hf R => call_int_int ⟨s.heap, s.toks, H, rfl, R, h⟩⟩
  · rename_i b
    obtain ⟨w, rfl, hw1⟩ : ∃ w, ws = [w] ∧ abs w = .bool b := by
      cases ws with
      | nil => simp at hw
      | cons w r => cases r with
        | nil => exact ⟨w, rfl, by simpa using hw⟩
        | cons _ _ => simp at hw
    obtain rfl := abs_bool hw1
    obtain ⟨rfl, h⟩ := h
    exact ⟨.type "int", rfl, fun A fl B rest s ha hf R => call_int_bool ⟨s.heap, _, H, rfl, R, h⟩⟩
  · rename_i i j
    obtain ⟨w, w', rfl, hw1, hw'⟩ : ∃ w w', ws = [w, w'] ∧ abs w = .int i ∧ abs w' = .int j := by
      cases ws with
      | nil => simp at hw
      | cons w r => cases r with
        | nil => simp at hw
        | cons w' r => cases r with
          | nil => exact ⟨w, w', rfl, by simpa using hw⟩
          | cons _ _ => simp at hw
    obtain ⟨t, rfl⟩ := abs_int hw1
    obtain ⟨t', rfl⟩ := abs_int hw'
    rcases h with ⟨rfl, hhd, h⟩ | ⟨rfl, hhd, h⟩
    · refine ⟨.builtin "min", rfl, fun A fl B rest s ha hf R => ?_⟩
      refine min_two_ints (ha.handled hhd) fun h' tk hk => ⟨h', tk, H, rfl, R.grow hk, ?_⟩
      show k (abs _) H
      have : abs (if j < i then Value.int j t' else Value.int i t) = .int (min i j) := by
        split <;> simp only [abs] <;> congr 1 <;> omega
      rw [this]; exact h
    · refine ⟨.builtin "max", rfl, fun A fl B rest s ha hf R => ?_⟩
      refine max_two_ints (ha.handled hhd) fun h' tk hk => ⟨h', tk, H, rfl, R.grow hk, ?_⟩
      show k (abs _) H
      have : abs (if j > i then Value.int j t' else Value.int i t) = .int (max i j) := by
        split <;> simp only [abs] <;> congr 1 <;> omega
      rw [this]; exact h
  · exact h.elim
end
end Mine
end
section
namespace Mine
open PySem PySem.W PySem.Calls PyProof.Rows

noncomputable def notSlice : Expr → Bool
  | .Slice .. => false
  | _ => true
theorem subscripted_plain {e : Expr} {o i : Value} (h : notSlice e = true) : subscripted e false o i = operate [o, i] (getItem o i) := by
  cases e <;> first | rfl | cases h
noncomputable def noStar : List Expr → Bool
  | [] => true
  | .Starred _ _ :: _ => false
  | _ :: r => noStar r
theorem starEach_plain {env : Env} : ∀ {es : List Expr}, noStar es = true → starEach es env = es.map fun e => (false, eval e env)
  | [], _ => rfl
  | e :: r, h => by
    cases e <;> first
      | cases h
      | (rw [List.map_cons, ← starEach_plain (es := r) h]; rfl)
theorem backTo_plain {env : Env} {pos : Pos} {es : List Expr} (h : noStar es = true) : backTo pos (starEach es env) = es.map fun e => (false, eval e env) := by
  rw [starEach_plain h]
  unfold backTo
  rw [List.map_map]
  rfl

section
variable {G : Gd} {n : Nat} {hd : Bool} {env : Env} {m : AMap} {H : AHeap} {x : XE}

theorem itemAt_get {ws : List Value} {vs : List V} {i : Int} {v : V} (hw : ws.map abs = vs) (h : itemAt vs i = some v) (hl : vs.length ≤ 1000) : -(2 ^ 63) ≤ i ∧ i < 2 ^ 63 ∧
    ((0 ≤ i ∧ ∃ w, ws[i.toNat]? = some w ∧ abs w = v) ∨ (i < 0 ∧ -(ws.length : Int) ≤ i ∧ ∃ w, ws[(i + ws.length).toNat]? = some w ∧ abs w = v)) := by
  have l1 : ws.length = vs.length := by rw [← hw, List.length_map]
  unfold itemAt at h
  split at h
  · rename_i h0
    have hlt := (List.getElem?_eq_some_iff.mp h).1
    rw [← hw, List.getElem?_map, Option.map_eq_some_iff] at h
    obtain ⟨w, e1, e2⟩ := h
    exact ⟨by omega, by omega, .inl ⟨h0, w, e1, e2⟩⟩
  · split at h
    · rename_i h0 h1
      rw [← l1] at h h1
      rw [← hw, List.getElem?_map, Option.map_eq_some_iff] at h
      obtain ⟨w, e1, e2⟩ := h
      exact ⟨by omega, by omega, .inr ⟨by omega, h1, w, e1, e2⟩⟩
    · cases h
theorem sub_ok {value slice : Expr} {u v : V} {u' v' : Value} {k : V → AHeap → Prop} (hs : notSlice slice = true) (h : wpSub u v H fun r => k r H) (hu : abs u' = u) (hv : abs v' = v) : Ok G n hd env m (subscriptTail value slice u' v') H (fun r => k (abs r)) x := by
  intro A fl B rest s ha hf R
  unfold wpSub at h
  split at h
  · rename_i a i
    obtain rfl := abs_ref hu
    obtain ⟨t, rfl⟩ := abs_int hv
    split at h
    · rename_i vs hH
      obtain ⟨r, hr, h⟩ := h
      obtain ⟨_, x2, ws, nn, x3, x4⟩ := R.obj _ _ hH
      have hL : s.heap.IsList a ws.toArray := ⟨_, x3, rfl, nn, rfl⟩
      obtain ⟨b1, b2, ⟨h0, w, e1, e2⟩ | ⟨h0, h1, w, e1, e2⟩⟩ := itemAt_get x4 hr x2
      · exact tail_any hL.typeIs slot_list_getitem.lookup (wpAny_getItem_list hL h0 b2 (by simpa using e1) ⟨s.heap, s.toks, H, rfl, R, by show k (abs w) H; rw [e2]; exact h⟩) (subscripted_plain hs)
      · exact tail_any hL.typeIs slot_list_getitem.lookup (wpAny_getItem_list_neg hL h0 (by simpa using h1) b1 (by simpa using e1) ⟨s.heap, s.toks, H, rfl, R, by show k (abs w) H; rw [e2]; exact h⟩) (subscripted_plain hs)
    · rename_i vs hH
      obtain ⟨r, hr, h⟩ := h
      obtain ⟨_, x2, ws, nn, x3, x4⟩ := R.obj _ _ hH
      have hT : IsTup s.heap a ws.toArray := ⟨_, x3, rfl, nn, rfl⟩
      obtain ⟨b1, b2, z⟩ := itemAt_get x4 hr x2
      have key : ∃ j w, seqIndex? i ws.length = some j ∧ ws[j]? = some w ∧ abs w = r := by
        rcases z with ⟨h0, w, e1, e2⟩ | ⟨h0, h1, w, e1, e2⟩
        · refine ⟨_, w, ?_, e1, e2⟩
          have := (List.getElem?_eq_some_iff.mp e1).1
          unfold seqIndex?
          simp only [show ¬ i < 0 by omega, if_false]
          simp; omega
        · refine ⟨_, w, ?_, e1, e2⟩
          have := (List.getElem?_eq_some_iff.mp e1).1
          unfold seqIndex?
          simp only [h0, if_true]
          simp; omega
      obtain ⟨j, w, j1, j2, j3⟩ := key
      exact item_tupleT hT b1 b2 j1 j2 ⟨s.heap, s.toks, H, rfl, R, by show k (abs w) H; rw [j3]; exact h⟩ (subscripted_plain hs)
    · rename_i ns hH
      obtain ⟨i', h0, hr, h⟩ := h
      obtain ⟨_, x2, ws, hL, x4⟩ := R.obj _ _ hH
      have hlt := (List.getElem?_eq_some_iff.mp hr).1
      have : (ws.map abs)[i.toNat]? = some (.int i') := by rw [x4, List.getElem?_map, hr]; rfl
      rw [List.getElem?_map, Option.map_eq_some_iff] at this
      obtain ⟨w, e1, e2⟩ := this
      exact tail_any hL.typeIs slot_list_getitem.lookup (wpAny_getItem_list hL h0 (by omega) (by simpa using e1) ⟨s.heap, s.toks, H, rfl, R, by show k (abs w) H; rw [e2]; exact h⟩) (subscripted_plain hs)
    · exact h.elim
  · exact h.elim

theorem part_of {v : V} {v' : Value} {nn l : Nat} (hv : abs v' = v) (h : cutLo v nn = some l) : ∃ lo, IsPart v' lo ∧ kms_lo lo nn = l := by
  unfold cutLo at h
  split at h
  · obtain rfl := abs_none hv; cases h; exact ⟨none, .none, rfl⟩
  · rename_i i
    obtain ⟨t, rfl⟩ := abs_int hv
    cases h
    exact ⟨some i, .int i t, rfl⟩
  · cases h
theorem part_of' {v : V} {v' : Value} {nn l : Nat} (hv : abs v' = v) (h : cutHi v nn = some l) : ∃ lo, IsPart v' lo ∧ kms_hi lo nn = l := by
  unfold cutHi at h
  split at h
  · obtain rfl := abs_none hv; cases h; exact ⟨none, .none, rfl⟩
  · rename_i i
    obtain ⟨t, rfl⟩ := abs_int hv
    cases h
    exact ⟨some i, .int i t, rfl⟩
  · cases h
theorem slice_ok {value : Expr} {lo hi : Option Expr} {p pos : Pos} {k : V → AHeap → Prop} (h : Ok G n hd env m (eval value env) H (fun u H1 => Ok G n hd env m (evalPart lo env) H1 (fun l H2 => Ok G n hd env m (evalPart hi env) H2 (fun r H3 => wpSlice (abs u) (abs l) (abs r) H3 k) x) x) x) :
    Ok G n hd env m (eval (.Subscript value (.Slice lo hi none p) pos) env) H (fun v => k (abs v)) x := by
  intro A fl B rest s ha hf R
  refine Subscript_ (wpAny_mono (h A fl B rest s ha hf R) ?_ fun _ _ e => e)
  rintro u s1 ⟨h1, tk1, H1, rfl, R1, q1⟩
  refine wpAny_Slice (wpAny_mono (q1 A fl B rest _ ha hf R1) ?_ fun _ _ e => e.trans)
  rintro l s2 ⟨h2, tk2, H2, rfl, R2, q2⟩
  refine wpAny_mono (q2 A fl B rest _ ha hf R2) ?_ fun _ _ e => e.trans.trans
  rintro r s3 ⟨h3, tk3, H3, rfl, R3, q3⟩
  rw [evalPart_none]
  refine wpAny_pure ?_
  unfold wpSlice at q3
  split at q3
  · rename_i a hu
    obtain rfl := abs_ref hu
    obtain ⟨vs, l0, r0, hH, c1, c2, q⟩ := q3
    obtain ⟨_, x2, ws, nn, x3, x4⟩ := R3.obj _ _ hH
    have l1 : ws.length = vs.length := by rw [← x4, List.length_map]
    obtain ⟨lo', pl, kl⟩ := part_of rfl c1
    obtain ⟨hi', pu, kh⟩ := part_of' rfl c2
    have R4 := R3.push { cls := .type "slice", data := .fields #[l, r, .none] }
    have x3' := Heap.get?_push_of_some { cls := .type "slice", data := .fields #[l, r, .none] } x3
    have hL : (h3.push { cls := .type "slice", data := .fields #[l, r, .none] }).IsList a ws.toArray := ⟨_, x3', rfl, nn, rfl⟩
    have hsl := Heap.IsSliceOf.new h3 l r .none
    have hsz : ws.toArray.size ≤ sizeLine := by rw [List.size_toArray, l1, sizeLine_eq]; omega
    have e : slicePick ws.toArray lo' hi' none = (kms_pick ws lo' hi').toArray := by rw [kms_pick_eq]
    have e2 : (kms_pick ws lo' hi').map abs = (vs.drop l0).take (r0 - l0) := by
      unfold kms_pick
      rw [List.map_take, List.map_drop, x4, l1, kl, kh]
    refine tail_any (s := { s with heap := h3.push _, toks := tk3 }) hL.typeIs slot_list_getitem.lookup (wpAny_getItem_list_slice (s := { s with heap := h3.push _, toks := tk3 }) hL hsl pl pu .none (by intro z; cases z) ⟨_, tk3, _, rfl, ?_, q _ (R4.fresh (Nat.le_refl _))⟩ hsz) rfl
    refine R4.newList (a := (h3.push { cls := .type "slice", data := .fields #[l, r, .none] }).objs.size) (n := 0) (fun _ _ e => Heap.get?_push_of_some _ e) (Nat.le_refl _) ?_ e2 ?_
    · rw [Heap.get?_push_size _ rfl, e]
    · rw [List.length_take, List.length_drop]; omega
  · exact q3.elim

/-- a name of the text's top -/
theorem ok_glob {y : Str} {pos : Pos} {v : Value} {k : Value → AHeap → Prop} (hk : env.kindOf y = some .globalImplicit) (hy : nsIn G.K mainGlobals y = some (some v)) (hd' : (y == ("__debug__" : Str)) = false) (h : k v H) : Ok G n hd env m (eval (.Name y pos) env) H k x := by
  intro A fl B rest s ha hf R
  refine Calls.Name_function_global R.head.kind hk (Calls.loadGlobal_global (mg := G.mg) (by rw [R.head.glob]; exact R.gn) (mg_of G.kin G.g hy) ⟨s.heap, s.toks, H, rfl, R, h⟩) hd'
theorem ok_built {y : Str} {pos : Pos} {v : Value} {k : Value → AHeap → Prop} (hk : env.kindOf y = some .globalImplicit) (hy : nsIn G.K mainGlobals y = some none) (hv : bootBuiltins y = some v) (hn : y ≠ "__name__") (hd' : (y == ("__debug__" : Str)) = false) (h : k v H) : Ok G n hd env m (eval (.Name y pos) env) H k x := by
  intro A fl B rest s ha hf R
  refine Calls.Name_function_global R.head.kind hk (Calls.loadGlobal_builtin (mg := G.mg) (mb := G.mb) (by rw [R.head.glob]; exact R.gn) (mg_none_of G.kin G.g hy) (by rw [R.head.bult]; exact R.bn) ((G.builtins y hn).trans hv) ⟨s.heap, s.toks, H, rfl, R, h⟩) hd'

/-- the arguments of a call: told by what a list of trees gives -/
structure Args1 (G : Gd) (n : Nat) (hd : Bool) (env : Env) (m : AMap) (es : List Expr) (H : AHeap) (k : List V → AHeap → Prop) (x : XE) : Prop where
  star : noStar es = true
  nil : es = [] → k [] H
  ok : ∀ pos, Ok G n hd env m (spliced (backTo pos (starEach es env))) H (fun ws => k (ws.map abs)) x
theorem Args1.eval {f : Value} {es : List Expr} {pos : Pos} {k : List V → AHeap → Prop} (h : Args1 G n hd env m es H k x) : Ok G n hd env m (evalArgs f true (backTo pos (starEach es env)) []) H (fun a H1 => a.kw = [] ∧ k (a.pos.map abs) H1) x := by
  intro A fl B rest s ha hf R
  have h' := h.ok pos A fl B rest s ha hf R
  have h0 := h.nil
  rw [backTo_plain h.star] at h' ⊢
  cases es with
  | nil => exact evalArgs_nil3 ⟨s.heap, s.toks, H, rfl, R, rfl, h0 rfl⟩
  | cons e r =>
    refine evalArgs_plain (wpAny_mono h' ?_ fun _ _ e => e)
    rintro ws s1 ⟨h1, tk1, H1, e1, R1, q⟩
    exact ⟨h1, tk1, H1, e1, R1, rfl, q⟩
theorem Args1.mono {es : List Expr} {k k' : List V → AHeap → Prop} (h : Args1 G n hd env m es H k x) (hk : ∀ vs H', k vs H' → k' vs H') : Args1 G n hd env m es H k' x :=
  ⟨h.star, fun e => hk _ _ (h.nil e), fun pos => (h.ok pos).mono (fun _ _ z => hk _ _ z) fun _ _ z => z⟩
theorem plain_any {es : List Expr} {pos : Pos} (h : noStar es = true) : (backTo pos (starEach es env)).any (·.1) = false := by
  rw [backTo_plain h, List.any_eq_false]
  intro p hp
  obtain ⟨e, _, rfl⟩ := List.mem_map.mp hp
  simp
/-- a call of a def or a class of the text -/
theorem callWith_ok {f : Value} {first : List Value} {es : List Expr} {pos pos' : Pos} {k : V → AHeap → Prop} (hk : keepIn G.K f = true)
    (h : Args1 G n hd env m es H (fun vs H1 => ∀ ws, ws.map abs = vs → Ok G n hd env m (call f (first ++ ws)) H1 (fun v => k (abs v)) x) x) : Ok G n hd env m (callWith pos f first (backTo pos' (starEach es env)) []) H (fun v => k (abs v)) x := by
  intro A fl B rest s ha hf R
  refine callWith_of (P := fun h => G.K.In h) (by rw [plain_any h.star]; rfl) (keeps_K hk) (wpAny_mono (h.eval A fl B rest s ha hf R) ?_ fun _ _ e => e)
  rintro a s1 ⟨h1, tk1, H1, rfl, R1, hkw, q⟩
  refine ⟨R1.inK, ?_⟩
  rw [hkw]
  exact wpAny_mono (q a.pos rfl A fl B rest _ ha hf R1) (fun _ _ z => z.trans) fun _ _ z => z.trans
theorem callWith_bi_ok {fv : Value} {es : List Expr} {pos pos' : Pos} {k : V → AHeap → Prop} (hf : (∃ i, fv = .builtin i) ∨ ∃ T, fv = .type T)
    (h : Args1 G n hd env m es H (fun vs H1 => ∀ ws, ws.map abs = vs → Ok G n hd env m (call fv ws) H1 (fun v => k (abs v)) x) x) : Ok G n hd env m (callWith pos fv [] (backTo pos' (starEach es env)) []) H (fun v => k (abs v)) x := by
  intro A fl B rest s ha hf' R
  have tail : wpAny (model G.prog G.w) A (evalArgs fv true (backTo pos' (starEach es env)) []) (fun a s1 => wpAny (model G.prog G.w) A (call fv ([] ++ a.pos) a.kw) (NPost G B ((env, m) :: rest) s fun v => k (abs v)) (XPost G B fl ((env, m) :: rest) s x) s1) (XPost G B fl ((env, m) :: rest) s x) s := by
    refine wpAny_mono (h.eval A fl B rest s ha hf' R) ?_ fun _ _ e => e
    rintro a s1 ⟨h1, tk1, H1, rfl, R1, hkw, q⟩
    rw [hkw]
    exact wpAny_mono (q a.pos rfl A fl B rest _ ha hf' R1) (fun _ _ z => z.trans) fun _ _ z => z.trans
  rcases hf with ⟨i, rfl⟩ | ⟨T, rfl⟩
  · exact Calls.callWith_builtin (plain_any h.star) tail
  · exact PyProof.Rows.callWith_type (plain_any h.star) tail
theorem AOk.less {A : Around} {fl : List Env} {n' : Nat} (h : AOk A hd n fl) (hn : n' ≤ n) : AOk A hd n' fl := ⟨h.frames, h.handled, by have := h.depth; omega, by have := h.units; omega⟩
theorem call_ok {fa : Addr} {n' : Nat} {vs : List V} {ws : List Value} {k : V → AHeap → Prop} (h : CallF G n' fa vs H k x) (hn : n' ≤ n) (hw : ws.map abs = vs) : Ok G n false env m (call (.ref fa) ws) H (fun v => k (abs v)) x := by
  intro A fl B rest s ha hf R
  exact wpAny_call (codeAny_mono (h A fl B _ s ws (ha.less hn) hf R hw) fun r s' z => z)
/-- a board is made -/
theorem make_ok {f : Str} {C fa : Addr} {n' : Nat} {vs : List V} {ws : List Value} {k : V → AHeap → Prop} (hp : makePre G n f n' C fa) (h : MakeF G n' fa vs H k x) (hw : ws.map abs = vs) : Ok G n false env m (call (.ref C) ws) H (fun v => k (abs v)) x := by
  obtain ⟨rfl, rfl, hC, e2, e3, e4, e5, e6⟩ := hp
  intro A fl B rest s ha hf R
  obtain ⟨hh, g, d, t, os⟩ := s
  refine wpAny_call (make_core (makes_of R.inK e2) (looks_findIn R.inK e4) (fun self => bind_fn R.inK self e6) (.inl (by simp)) ?_)
  have hsz : (hh.push emptyDict).objs.size = hh.objs.size + 1 := Heap.size_push ..
  have hx : ((hh.push emptyDict).push (instObj C hh.objs.size)).get? (hh.objs.size + 1) = some (instObj C hh.objs.size) := by rw [← hsz]; exact Heap.get?_push_size _ rfl
  have hdx : ((hh.push emptyDict).push (instObj C hh.objs.size)).get? hh.objs.size = some (dictOf [] 0) := Heap.get?_push_of_some _ (Heap.get?_push_size _ rfl)
  have hkeep : ∀ b o, hh.get? b = some o → ((hh.push emptyDict).push (instObj C hh.objs.size)).get? b = some o := fun b o e => Heap.get?_push_of_some _ (Heap.get?_push_of_some _ e)
  have hfr : H (hh.objs.size + 1) = none := R.fresh (Nat.le_succ _)
  have R' : Rep G B ((env, m) :: rest) (H.upd (hh.objs.size + 1) (.board none)) ((hh.push emptyDict).push (instObj C hh.objs.size)) := by
    refine R.new (o := .board none) hkeep ⟨C, hh.objs.size, [], 0, #[], rfl, by unfold clsAddr; rw [hC], hx, hdx, R.freshB (Nat.le_succ _), R.freshB (Nat.le_refl _), ?_, rfl⟩
    intro hm
    obtain ⟨p, hp, q⟩ := List.mem_map.mp hm
    exact absurd (R.fr p hp).lt (by rw [q]; exact Nat.lt_irrefl _)
  have hA : AOk (A.under (.builtin "type.__call__" ⟨.ref C :: ws, []⟩)) false n' fl := by
    refine ⟨?_, fun _ => ?_, ?_, ?_⟩
    · exact (show (A.under (.builtin "type.__call__" ⟨.ref C :: ws, []⟩)).frames = A.frames from rfl).trans ha.frames
    · exact ha.handled rfl
    · rw [depth_under_make]; have := ha.depth; omega
    · rw [units_under_make]; have := ha.units; omega
  refine codeAny_mono (h _ hfr _ fl B _ ⟨(hh.push emptyDict).push (instObj C hh.objs.size), g, d, t, os⟩ (.ref (hh.objs.size + 1) :: ws) hA hf R' (by rw [List.map_cons, hw]; rfl)) fun r s' z => ?_
  rcases r with e | (v | _ | _ | _)
  · obtain ⟨h', tk, H', a, c, z1, z2, z3⟩ := z
    exact ⟨h', tk, H', a, c, z1, z2, z3⟩
  all_goals first | exact z.elim | skip
  obtain ⟨h', tk, H', z1, z2, z3, z4⟩ := z
  exact ⟨abs_none z3, h', tk, H', z1, z2, z4⟩
end
end Mine
end
section
namespace Mine
open PySem PySem.W PySem.Calls PyProof.Rows

noncomputable def plainBase : Expr → Bool
  | .Name .. => true
  | .Subscript .. => true
  | .Attribute .. => true
  | _ => false
theorem base_plain {o : Expr} {a : Str} {env : Env} {t : Sem Value} (h : plainBase o = true) : attributeBase o a env t = t := by
  cases o <;> first | rfl | cases h

section
variable {G : Gd} {n : Nat} {hd : Bool} {env : Env} {m : AMap} {H : AHeap} {x : XE}

theorem meth_eval {M : Model} {A : Around} {E : Value → Shared → Prop} {s : Shared} {o : Expr} {name : Str} {apos pos : Pos} {args : List Expr} {Q : Value → Shared → Prop} (hb : plainBase o = true) (hst : noStar args = true) (hlen : args.length < 30) (hline : (apos.endLine == pos.line) = true)
    (h : ∀ pl, wpAny M A (eval o env) (fun ov s1 => wpAny M A (getMethod ov name pl) (fun fx s2 => wpAny M A (callWith pos fx.1 fx.2 (backTo pos (starEach args env)) []) Q E s2) E s1) E s) :
    wpAny M A (eval (.Call (.Attribute o name apos) args [] pos) env) Q E s := by
  show wpAny M A (do
    let ov ← attributeBase o name env (eval o env)
    standAt apos.atName
    methodCall o name apos pos env ov (args.length + 0) (backTo pos (starEach args env)) []) Q E s
  rw [base_plain hb]
  refine wpAny_bind (wpAny_mono (h (do return (← importBound o env).getD true)) (fun ov s1 h1 => wpAny_bind (wpAny_standAt ?_)) fun _ _ e => e)
  have hform : methodCallForm (args.length + 0) (backTo pos (starEach args env)) [] = true := by
    unfold methodCallForm
    rw [backTo_plain hst]
    simp [hlen]
  unfold methodCall calleeOf methodCallPos
  rw [hform, hline]
  exact wpAny_bind (wpAny_holding (wpAny_mono h1 (fun fx s2 h2 => wpAny_bind (wpAny_pure h2)) fun _ _ e => e))

theorem Gd.boardFacts (G : Gd) : ∃ C, clsAddr G.K "Board" = some C ∧ (plainGet G.K C "bases" = true ∧ hasDictIn G.K C = true ∧ findIn G.K (.ref C) "bases" = some none) ∧ findIn G.K (.ref C) "__setattr__" = some (some (.builtin "object.__setattr__")) ∧ plainOver G.K C = true ∧ takerIn G.K C "bases" = some none := by
  have h := G.board
  unfold boardOk at h
  split at h
  · rename_i C hC
    simp only [Bool.and_eq_true, beq_iff_eq] at h
    obtain ⟨⟨⟨⟨⟨h1, h2⟩, h3⟩, h4⟩, h5⟩, h6⟩ := h
    exact ⟨C, hC, ⟨h1, h2, h3⟩, h4, h5, h6⟩
  · cases h
theorem board_at {B : Addr → Option Obj} {es : List (Env × AMap)} {h : Heap} {a C : Addr} {f : Option Addr} (R : Rep G B es H h) (ha : H a = some (.board f)) (hC : clsAddr G.K "Board" = some C) :
    ∃ dx es n sl, InstAt h a ⟨.ref C, some dx, .plain, sl⟩ C (some (dictOf es n)) ∧ FieldIs f es := by
  obtain ⟨C', dx, es, n, sl, x0, x1, x2, x3, x4, x5, x6, x7⟩ := R.obj _ _ ha
  rw [hC] at x1; cases x1
  exact ⟨dx, es, n, sl, ⟨x2, rfl, rfl, x3⟩, x7⟩
theorem attr_ok {u : V} {u' : Value} {f : Str} {k : V → AHeap → Prop} {e : Bool} (h : wpAttr u f H fun v => k v H) (hu : abs u' = u) : Ok G n hd env m (getAttr u' f e) H (fun v => k (abs v)) x := by
  intro A fl B rest s ha hf R
  unfold wpAttr at h
  split at h
  · rename_i a
    obtain rfl := abs_ref hu
    obtain ⟨rfl, l, hH, h⟩ := h
    obtain ⟨C, hC, ⟨f1, f2, f3⟩, _⟩ := G.boardFacts
    obtain ⟨dx, es, nn, sl, I, hs, t, rfl⟩ := board_at R hH hC
    exact get_value (v := .ref l) R.inK I (plainGet_of f1).1 (findObj_own f2 f3 rfl (by rw [lookIn_dict]; rfl)) rfl ⟨s.heap, _, H, rfl, R, h⟩
  · exact h.elim

theorem append_ok {a : Addr} {us : List V} {v : V} {w : Value} {k : V → AHeap → Prop} (hH : H a = some (.list us)) (hl : us.length < 1000) (hw : abs w = v) (h : k .none (H.upd a (.list (us ++ [v])))) : Ok G n hd env m (call (.builtin "list.append") [.ref a, w]) H (fun v => k (abs v)) x := by
  intro A fl B rest s ha hf R
  obtain ⟨_, y2, ws, nn, y3, y4⟩ := R.obj _ _ hH
  have l1 : ws.length = us.length := by rw [← y4, List.length_map]
  refine append_at y3 (fun h' hs ho => ⟨h', s.toks, _, rfl, R.setList (ws := ws ++ [w]) (n := nn + 1) hH (fun c o hc e => (hs.2 c hc).trans e) (by rw [ho]; simp) (by rw [List.map_append, y4, ← hw]; rfl) (by rw [List.length_append, List.length_singleton]; omega), h⟩) ?_
  rw [List.size_toArray, l1, sizeLine_eq]; omega
theorem setItem_ok {a : Addr} {us : List V} {v : V} {w : Value} {j : Int} {t : Tok} {k : Unit → AHeap → Prop} (hH : H a = some (.list us)) (h0 : 0 ≤ j) (h1 : j < us.length) (hw : abs w = v) (h : k () (H.upd a (.list (us.set j.toNat v)))) : Ok G n hd env m (setItem (.ref a) (.int j t) w) H k x := by
  intro A fl B rest s ha hf R
  obtain ⟨_, y2, ws, nn, y3, y4⟩ := R.obj _ _ hH
  have l1 : ws.length = us.length := by rw [← y4, List.length_map]
  refine ki_setAt (items := ws.toArray) (n := nn) y3 h0 (by omega) (by simp only [List.size_toArray]; omega) ⟨_, s.toks, _, rfl, R.setList (ws := ws.set j.toNat w) (n := nn) hH (fun c o hc e => (Heap.get?_update_other _ _ (Ne.symm hc)).trans e) ?_ ?_ ?_, h⟩
  · rw [Heap.get?_update_self _ y3 rfl]
    simp [Obj.mapSeq]
  · rw [List.map_set, y4, hw]
  · rw [List.length_set]; exact y2

/-- a method's call -/
theorem meth_ok {o : Expr} {name : Str} {apos pos : Pos} {args : List Expr} {k : V → AHeap → Prop} (hb : plainBase o = true) (hlen : args.length < 30) (hline : (apos.endLine == pos.line) = true) (hst : noStar args = true)
    (h : Ok G n false env m (eval o env) H (fun u H1 => methPre G (abs u) name H1 ∧ Args1 G n false env m args H1 (fun vs H2 => wpMeth G n (abs u) name vs H1 H2 k x) x) x) :
    Ok G n false env m (eval (.Call (.Attribute o name apos) args [] pos) env) H (fun v => k (abs v)) x := by
  intro A fl B rest s ha hf R
  refine meth_eval hb hst hlen hline fun pl => ?_
  refine wpAny_mono (h A fl B rest s ha hf R) ?_ fun _ _ e => e
  rintro u s1 ⟨h1, tk1, H1, rfl, R1, hobj, hargs⟩
  unfold methPre at hobj
  split at hobj
  · rename_i a hu
    obtain rfl := abs_ref hu
    split at hobj
    · rename_i us hH
      subst hobj
      obtain ⟨_, _, ws0, n0, x3, _⟩ := R1.obj _ _ hH
      refine getMethod_list_append x3 rfl rfl ?_
      refine wpAny_mono (Q := NPost G B ((env, m) :: rest) { s with heap := h1, toks := tk1 } fun v => k (abs v)) (E := XPost G B fl ((env, m) :: rest) { s with heap := h1, toks := tk1 } x) ?_ (fun _ _ z => z.trans) fun _ _ z => z.trans
      refine Calls.callWith_builtin (plain_any hst) ?_
      refine wpAny_mono (hargs.eval A fl B rest _ ha hf R1) ?_ fun _ _ e => e
      rintro ⟨ap, ak⟩ s2 ⟨h2, tk2, H2, rfl, R2, hkw, q⟩
      dsimp only at hkw q
      subst hkw
      unfold wpMeth at q
      simp only [abs, hH] at q
      obtain ⟨us2, v, hH2, hv, hl, q⟩ := q
      obtain ⟨w, rfl, hw⟩ : ∃ w, ap = [w] ∧ abs w = v := by
        cases ap with
        | nil => simp at hv
        | cons w r => cases r with
          | nil => exact ⟨w, rfl, by simpa using hv⟩
          | cons _ _ => simp at hv
      exact wpAny_mono (append_ok (x := x) hH2 hl hw q A fl B rest _ ha hf R2) (fun _ _ z => z.trans) fun _ _ z => z.trans
    · rename_i f hH
      obtain ⟨fa, hm⟩ := hobj
      obtain ⟨C, hC, ⟨f1, f2, f3⟩, _⟩ := G.boardFacts
      obtain ⟨dx, es, nn, sl, I, hes⟩ := board_at R1 hH hC
      unfold bmeth at hm
      rw [hC] at hm
      dsimp only at hm
      split at hm
      · rename_i fa' hfind
        split at hm
        · rename_i hcond
          cases hm
          simp only [Bool.and_eq_true, bne_iff_ne, ne_eq] at hcond
          obtain ⟨⟨c1, c2⟩, c3⟩ := hcond
          have hsh : shadowIn (some (dictOf es nn)) name = some false := by
            unfold shadowIn
            dsimp only
            rw [lookIn_dict]
            cases f with
            | none => subst hes; rfl
            | some l =>
              obtain ⟨hs, t, rfl⟩ := hes
              have : (Value.str "bases" t).isStr name = false := by
                simp only [Value.isStr, beq_eq_false_iff_ne, ne_eq]
                exact fun q => c3 q.symm
              simp [getL, this, DictEntry.refKey]
          refine method_fn R1.inK I (plainGet_of f1).1 (plainGet_of f1).2 hfind (beq_iff_eq.mp c1) hsh ?_
          refine wpAny_mono (callWith_ok (first := [.ref a]) (x := x) (k := k) c2 ?_ A fl B rest _ ha hf R1) (fun _ _ z => z.trans) fun _ _ z => z.trans
          refine hargs.mono fun vs H2 q ws hw => ?_
          unfold wpMeth at q
          simp only [abs, hH] at q
          obtain ⟨n', fa2, rfl, hm2, q⟩ := q
          have : fa2 = fa := by
            unfold bmeth at hm2
            rw [hC] at hm2
            dsimp only at hm2
            rw [hfind] at hm2
            dsimp only at hm2
            split at hm2
            · cases hm2; rfl
            · cases hm2
          subst this
          exact call_ok q (Nat.le_succ _) (by rw [List.map_append, hw]; rfl)
        · cases hm
      · cases hm
    · exact hobj.elim
  · exact hobj.elim
end
end Mine
end
section
namespace Mine
open PySem PySem.W PySem.Calls PyProof.Rows

section
variable {G : Gd} {B : Addr → Option Obj} {es : List (Env × AMap)} {H : AHeap} {h h' : Heap} {a b : Addr} {env : Env} {m : AMap} {fl outer : List Env} {c : Str} {P P' : Option Value → Prop}

theorem FlyT.mono (x : FlyT G B H a c P h) (hp : ∀ f, P f → P' f) : FlyT G B H a c P' h := by
  obtain ⟨x0, C, oe, vs, a0, x1, x2, x3, x4, x5, x6, x7, x8, x9⟩ := x
  refine ⟨x0, C, oe, vs, a0, x1, x2, x3, x4, x5, x6, x7, x8, ?_⟩
  rcases x9 with ⟨y1, y2⟩ | ⟨T, oT, ts, f, y1, y2, y3, y4, y5, y6, y7⟩
  · exact .inl ⟨y1, hp _ y2⟩
  · exact .inr ⟨T, oT, ts, f, y1, y2, y3, y4, y5, hp _ y6, y7⟩
theorem onP_none {f : Option Value} (h : onP .none f) : flyP fl f := by
  cases f with
  | none => trivial
  | some f => exact .inl h
theorem onP_env {f : Option Value} (h : onP (rawInt env.locals) f) : flyP (env :: outer) f := by
  cases f with
  | none => trivial
  | some f => exact .inr ⟨env, outer, rfl, h⟩

theorem FrameAt.slots (x : FrameAt env m h) (k : ∀ b o, h.get? b = some o → ∃ sl, h'.get? b = some { o with slots := sl }) : FrameAt env m h' := by
  obtain ⟨x1, x2, x3, ⟨ml, ⟨o, es, ep, x4, x4', x4''⟩, x5⟩, x6, x7⟩ := x
  have kc : ∀ c v, h.IsCell c v → h'.IsCell c v := fun c v ⟨o, e, d⟩ => by obtain ⟨sl, e'⟩ := k c o e; exact ⟨_, e', d⟩
  obtain ⟨sl, e'⟩ := k _ _ x4
  refine ⟨x1, x2, x3, ⟨ml, ⟨_, es, ep, e', x4', x4''⟩, fun y v e => ?_⟩, fun y c e => ?_, x7⟩
  · rcases x5 y v e with z | ⟨z1, c, v', z2, z3, z4⟩
    · exact .inl z
    · exact .inr ⟨z1, c, v', z2, kc _ _ z3, z4⟩
  · obtain ⟨v0, z⟩ := x6 y c e; exact ⟨v0, kc _ _ z⟩
theorem Rep.slots (R : Rep G B es H h) {S : List Addr} (hS : ∀ b ∈ S, ∃ p ∈ es, p.1.locals = b) (x : Heap.SlotsOnly S h h') : Rep G B es H h' := by
  refine ⟨fun b o e => ?_, R.base, fun p hp => (R.fr p hp).slots x.2.2, R.apart, R.free, fun a o e => ?_⟩
  · rw [x.2.1 b fun hb => ?_]
    · exact R.keep b o e
    · obtain ⟨p, hp, q⟩ := hS b hb
      have := (R.free p hp).1
      rw [q, e] at this; cases this
  · have A := R.obj a o e
    refine A.change (fun b oo q hb => ?_) (fun _ e => e) fun _ _ e => e
    rw [x.2.1 b fun hbS => ?_]
    · exact q
    · obtain ⟨p, hp, z⟩ := hS b hbS
      obtain ⟨oL, _, _, eL, dL⟩ := (R.fr p hp).obj
      rw [z] at eL
      rcases hb with rfl | ⟨hb, f, rfl⟩
      · rcases A.data eL with ⟨_, _, y⟩ | y | ⟨_, y⟩ <;> (rw [dL] at y; cases y)
      · obtain ⟨C, dx, es', n, sl, y0, y1, y2, y3, y4, y5, y6, y7⟩ := A
        exact y6 (by rw [succ_inj y0 hb, ← z]; exact List.mem_map.mpr ⟨p, hp, rfl⟩)
/-- a record that no abstract object stands for turns -/
theorem Rep.setFields {oo : Obj} {vs : Array Value} (R : Rep G B es H h) (e : h.get? b = some oo) (hd : oo.data = .fields vs) (hB : B b = none) (hH : ∀ c, H b ≠ some (.exc c)) (hs : ∀ c o, c ≠ b → h.get? c = some o → h'.get? c = some o) : Rep G B es H h' := by
  obtain ⟨z1, z2⟩ := R.not_frame e (.inr (.inr ⟨_, hd⟩))
  refine R.turn hs hB z1 z2 fun a o q => .inl ⟨q, fun z => ?_, ?_⟩
  · subst z
    have A := R.obj a o q
    cases o with
    | list vs => obtain ⟨x1, x2, ws, n, x3, x4⟩ := A; rw [e] at x3; cases x3; cases hd
    | tup vs => obtain ⟨x1, x2, ws, n, x3, x4⟩ := A; rw [e] at x3; cases x3; cases hd
    | script ns => obtain ⟨x1, x2, vs, ⟨ol, x3, x4, n, x6⟩, x5⟩ := A; rw [e] at x3; cases x3; rw [hd] at x6; cases x6
    | board f => obtain ⟨C, dx, es, n, sl, x0, x1, x2, _⟩ := A; rw [e] at x2; cases x2; cases hd
    | exc c => exact hH c q
  · rintro ⟨f, rfl⟩ z
    obtain ⟨C, dx, es', n, sl, y0, y1, y2, y3, _⟩ := R.obj _ _ q
    rw [succ_inj y0 z, e] at y3; cases y3; cases hd

theorem frames_of (R : Rep G B es H h) : ∀ (fl : List Env), (∀ e ∈ fl, ∃ m, (e, m) ∈ es) → (∀ e ∈ fl, e.frame = some e.locals) → h.FunFrames G.base fl
  | [], _, _ => trivial
  | e :: r, h1, h2 => by
    obtain ⟨m, hm⟩ := h1 e (.head _)
    obtain ⟨o, _, _, eo, dO⟩ := (R.fr _ hm).obj
    refine ⟨by rw [(R.fr _ hm).kind]; decide, ⟨e.locals, o, h2 e (.head _), ?_, eo, fun vs q => by rw [dO] at q; cases q⟩, frames_of R r (fun e' he => h1 e' (.tail _ he)) fun e' he => h2 e' (.tail _ he)⟩
    cases q : G.base.get? e.locals with
    | none => rfl
    | some o' => have := R.base _ _ q; rw [(R.free _ hm).1] at this; cases this
theorem frames_mem (F : FlOk fl es) : ∀ b ∈ fl.filterMap (·.frame), ∃ p ∈ es, p.1.locals = b := by
  intro b hb
  obtain ⟨e, he, q⟩ := List.mem_filterMap.mp hb
  obtain ⟨m, hm⟩ := F.mem e he
  rw [F.own e he] at q
  exact ⟨_, hm, Option.some.inj q⟩
theorem FlOk.head (F : FlOk (env :: outer) es) : env.frame = some env.locals := F.own _ (.head _)
theorem FlOk.remap {m' : AMap} (F : FlOk fl ((env, m) :: es)) : FlOk fl ((env, m') :: es) :=
  ⟨fun e he => by
    obtain ⟨m0, h0⟩ := F.mem e he
    rcases List.mem_cons.mp h0 with q | q
    · cases q; exact ⟨m', .head _⟩
    · exact ⟨m0, .tail _ q⟩, F.own⟩
theorem FlOk.enter (F : FlOk fl es) (hf : env.frame = some env.locals) : FlOk (env :: fl) ((env, m) :: es) :=
  ⟨fun e he => by
    rcases List.mem_cons.mp he with rfl | q
    · exact ⟨m, .head _⟩
    · obtain ⟨m0, h0⟩ := F.mem e q; exact ⟨m0, .tail _ h0⟩, fun e he => by
    rcases List.mem_cons.mp he with rfl | q
    · exact hf
    · exact F.own e q⟩

variable {M : Model} {A : Around} {E : Value → Shared → Prop} {s : Shared} {Q : Unit → Shared → Prop}

theorem entry_ok {oe : Obj} {vs : Array Value} {C : Addr} {a0 head : Value} {hadNext : Bool} (hfr : A.frames = some (env :: outer)) (F : FlOk (env :: outer) es) (R : Rep G B es H s.heap)
    (hc : c ∈ excNames) (hC : clsAddr G.K c = some C) (he : s.heap.get? a = some oe) (hcl : oe.cls = .ref C) (hd : oe.data = .fields vs) (hdi : oe.dict = none) (hsz : 1 < vs.size) (h0 : vs[0]? = some a0) (hB : B a = none) (hH : ∀ c', H a ≠ some (.exc c'))
    (h : ∀ h', Rep G B es H h' → FlyT G B H a c (onP (rawInt env.locals)) h' → Q () { s with heap := h' }) :
    wpAny M A (do let a' ← frameOf env; let pl ← entryPlaceOf env.locals hadNext; let b ← EntryCells.newEntry head a' .none (rawInt env.locals) .none pl; setField (.ref a) 1 b) Q E s := by
  have hl := frames_of R _ F.mem F.own
  refine wpAny_bind (wpAny_frameOf_fun hfr hl F.head fun h₁ hs₁ => ?_)
  have R1 : Rep G B es H h₁ := R.slots (frames_mem F) hs₁
  have he₁ : h₁.get? a = some oe := by
    rw [hs₁.2.1 a fun hb => ?_]
    · exact he
    · obtain ⟨p, hp, q⟩ := frames_mem F a hb
      obtain ⟨oL, _, _, eL, dL⟩ := (R.fr p hp).obj
      rw [q, he] at eL; cases eL; rw [hd] at dL; cases dL
  refine wpAny_bind (wpAny_entryPlaceOf fun pl hpl => ?_)
  unfold EntryCells.newEntry newFields
  refine wpAny_bind (wpAny_newObj_type ?_ (hpl.sizeOk5 _ _ _ _ _))
  have he₂ := Heap.get?_push_of_some (h := h₁) { cls := .type "traceback", dict := none, data := .fields ([head, .ref env.locals, .none, rawInt env.locals, .none] ++ (if pl.isEmpty then List.replicate 6 Value.none else pl)).toArray } he₁
  have R2 := R1.push { cls := .type "traceback", dict := none, data := .fields ([head, .ref env.locals, .none, rawInt env.locals, .none] ++ (if pl.isEmpty then List.replicate 6 Value.none else pl)).toArray }
  refine wpAny_setField he₂ hd hsz (h _ ?_ ?_)
  · exact R2.setFields he₂ hd hB hH fun b o hb e => (Heap.get?_update_other _ _ (Ne.symm hb)).trans e
  · have hTe : h₁.objs.size ≠ a := Nat.ne_of_gt (Heap.lt_size he₁)
    have hd₃ := Obj.data_mapFields hd (·.setIfInBounds 1 (Value.ref h₁.objs.size))
    have he₃ := Heap.get?_update_self (Obj.mapFields (·.setIfInBounds 1 (Value.ref h₁.objs.size))) he₂ (Obj.isFreed_of_fields hd₃)
    have hT₃ := (Heap.get?_update_other (h₁.push { cls := .type "traceback", dict := none, data := .fields ([head, .ref env.locals, .none, rawInt env.locals, .none] ++ (if pl.isEmpty then List.replicate 6 Value.none else pl)).toArray })
      (Obj.mapFields (·.setIfInBounds 1 (Value.ref h₁.objs.size))) (Ne.symm hTe)).trans (Heap.get?_push_size h₁ rfl)
    refine ⟨hc, C, _, _, a0, hC, he₃, ?_, hd₃, ?_, by rw [Array.getElem?_setIfInBounds_ne (by decide)]; exact h0, hB, hH, .inr ⟨h₁.objs.size, _, _, _, by simp [hsz], hTe, hT₃, rfl, ?_, rfl, R1.freshB (Nat.le_refl _), fun c' => by rw [R1.fresh (Nat.le_refl _)]; intro q; cases q⟩⟩
    · rw [Obj.cls_mapFields]; exact hcl
    · obtain ⟨c1, c2, c3, c4⟩ := oe
      dsimp only at hd hdi
      subst hd hdi
      rfl
    · first | (simp; done) | (rcases hpl with rfl | ⟨_, _, _, _, _, _, _, rfl⟩ <;> simp)

theorem flight_ok {o : Option Addr} (R : Rep G B es H s.heap) (Y : FlyT G B H a c P s.heap) (hP : ¬ P none)
    (h : ∀ h', Rep G B es H h' → FlyT G B H a c (onP (o.elim .none fun f => rawInt f)) h' → Q () { s with heap := h' }) : wpAny M A (setFlight (.ref a) o) Q E s := by
  obtain ⟨x0, C, oe, vs, a0, x1, x2, x3, x4, x5, x6, x7, x8, ⟨y1, y2⟩ | ⟨T, oT, ts, f, y1, y2, y3, y4, y5, y6, y7, y8⟩⟩ := Y
  · exact absurd y2 hP
  unfold setFlight
  refine wpAny_bind (wpAny_field x2 x4 y1 ?_)
  rw [if_pos (show (Value.ref T != Value.none) = true from by simp)]
  have hsz3 : 3 < ts.size := (Array.getElem?_eq_some_iff.mp y5).1
  refine wpAny_setField y3 y4 hsz3 (h _ (R.setFields y3 y4 y7 y8 fun b o hb e => (Heap.get?_update_other _ _ (Ne.symm hb)).trans e) ?_)
  exact ⟨x0, C, oe, vs, a0, x1, (Heap.get?_update_other _ _ y2).trans x2, x3, x4, x5, x6, x7, x8, .inr ⟨T, _, _, _, y1, y2, Heap.get?_update_self _ y3 (Obj.isFreed_of_fields (Obj.data_mapFields y4 _)), Obj.data_mapFields y4 _, by simp [hsz3], rfl, y7, y8⟩⟩

theorem note_ok (hfr : A.frames = some (env :: outer)) (F : FlOk (env :: outer) es) (R : Rep G B es H s.heap) (Y : Fly G B (env :: outer) H a c s.heap)
    (h : ∀ h', Rep G B es H h' → FlyT G B H a c (onP (rawInt env.locals)) h' → Q () { s with heap := h' }) : wpAny M A (noteFrame (.ref a) env) Q E s := by
  obtain ⟨x0, C, oe, vs, a0, x1, x2, x3, x4, x5, x6, x7, x8, ⟨y1, y2⟩ | ⟨T, oT, ts, f, y1, y2, y3, y4, y5, y6, y7, y8⟩⟩ := Y
  · unfold noteFrame
    simp only [F.head]
    refine wpAny_bind (wpAny_field x2 x4 y1 ?_)
    rw [if_neg (by decide)]
    exact entry_ok hfr F R x0 x1 x2 x3 x4 x5 (Array.getElem?_eq_some_iff.mp y1).1 x6 x7 x8 h
  · unfold noteFrame
    simp only [F.head]
    refine wpAny_bind (wpAny_field x2 x4 y1 ?_)
    rw [if_pos (show (Value.ref T != Value.none) = true from by simp)]
    refine wpAny_bind (wpAny_field y3 y4 y5 ?_)
    rcases y6 with rfl | ⟨e, r, q, rfl⟩
    · rw [if_neg (show ¬ ((Value.none == rawInt env.locals) = true) from by simp [rawInt])]
      refine wpAny_bind (wpAny_setField y3 y4 (Array.getElem?_eq_some_iff.mp y5).1 ?_)
      have R1 : Rep G B es H (s.heap.update T (Obj.mapFields (·.setIfInBounds 3 Value.none))) := R.setFields y3 y4 y7 y8 fun b o hb e => (Heap.get?_update_other _ _ (Ne.symm hb)).trans e
      exact entry_ok (s := { s with heap := s.heap.update T (Obj.mapFields (·.setIfInBounds 3 Value.none)) }) hfr F R1 x0 x1 ((Heap.get?_update_other _ _ y2).trans x2) x3 x4 x5 (Array.getElem?_eq_some_iff.mp y1).1 x6 x7 x8 h
    · cases q
      rw [if_pos (show (rawInt env.locals == rawInt env.locals) = true from by simp)]
      exact wpAny_pure (h s.heap R ⟨x0, C, oe, vs, a0, x1, x2, x3, x4, x5, x6, x7, x8, .inr ⟨T, oT, ts, _, y1, y2, y3, y4, y5, rfl, y7, y8⟩⟩)

theorem back_ok (F : FlOk (env :: outer) es) (R : Rep G B es H s.heap) (Y : FlyT G B H a c P s.heap) (hP : ¬ P none)
    (h : ∀ h', Rep G B es H h' → FlyT G B H a c (onP (rawInt env.locals)) h' → E (.ref a) { s with heap := h' }) : cameBackBy M A env E (.ref a) s := by
  unfold cameBackBy
  have Y' := Y
  obtain ⟨x0, C, oe, vs, a0, x1, x2, x3, x4, x5, x6, x7, x8, ⟨y1, y2⟩ | ⟨T, oT, ts, f, y1, y2, y3, y4, y5, y6, y7, y8⟩⟩ := Y
  · exact absurd y2 hP
  refine wpAny_bind (wpAny_field x2 x4 y1 ?_)
  rw [if_neg (by simp), F.head]
  exact flight_ok R Y' hP h

/-- an exception leaves its frame -/
theorem leave_ok (hfr : A.frames = some (env :: outer)) (F : FlOk (env :: outer) es) (R : Rep G B es H s.heap) (Y : Fly G B (env :: outer) H a c s.heap)
    (h : ∀ h', Rep G B es H h' → FlyT G B H a c (onP .none) h' → Q () { s with heap := h' }) : wpAny M A (leaving env (.ref a)) Q E s := by
  unfold leaving
  refine wpAny_bind (note_ok hfr F R Y fun h' R' Y' => ?_)
  exact flight_ok (s := { s with heap := h' }) (o := none) R' Y' (fun z => z) h
end
end Mine
end
section
namespace Mine
open PySem PySem.W PySem.Calls PyProof.Rows

section
variable {G : Gd} {B : Addr → Option Obj} {es : List (Env × AMap)} {H : AHeap} {h h' : Heap} {a b I : Addr} {env : Env} {m : AMap} {fl outer : List Env} {c : Str} {P P' : Option Value → Prop} {oI oI' : Obj}

theorem FlyT.popB (x : FlyT G (setB B I oI) H a c P h) : FlyT G B H a c P h := by
  obtain ⟨x0, C, oe, vs, a0, x1, x2, x3, x4, x5, x6, x7, x8, x9⟩ := x
  refine ⟨x0, C, oe, vs, a0, x1, x2, x3, x4, x5, x6, (setB_none x7).2, x8, ?_⟩
  rcases x9 with y | ⟨T, oT, ts, f, y1, y2, y3, y4, y5, y6, y7, y8⟩
  · exact .inl y
  · exact .inr ⟨T, oT, ts, f, y1, y2, y3, y4, y5, y6, (setB_none y7).2, y8⟩
theorem Rep.at_ne (R : Rep G (setB B I oI) es H h) (hI : B I = none) {o : AObj} (hb : ∀ b o, G.base.get? b = some o → B b = some o) (e : H a = some o) : a ≠ I ∧ ((∃ f, o = .board f) → I + 1 ≠ a) := by
  have x := R.obj a o e
  cases o with
  | list vs => exact ⟨(setB_none x.1).1, fun ⟨f, hf⟩ => by cases hf⟩
  | tup vs => exact ⟨(setB_none x.1).1, fun ⟨f, hf⟩ => by cases hf⟩
  | script ns =>
    obtain ⟨⟨ob, hob⟩, _⟩ := x
    refine ⟨fun q => ?_, fun ⟨f, hf⟩ => by cases hf⟩
    have := hb _ _ hob
    rw [q, hI] at this; cases this
  | board f =>
    obtain ⟨C, dx, es, n, sl, x0, x1, x2, x3, x4, x5, x6, x7⟩ := x
    exact ⟨(setB_none x4).1, fun _ q => (setB_none x5).1 (succ_inj x0 q)⟩
  | exc c => exact ⟨(setB_none x.1).1, fun ⟨f, hf⟩ => by cases hf⟩
theorem Rep.freshI (R : Rep G (setB B I oI) es H h) (hI : B I = none) (hb : ∀ b o, G.base.get? b = some o → B b = some o) : H I = none := by
  cases e : H I with
  | none => rfl
  | some o => exact absurd rfl (R.at_ne hI hb e).1
theorem Rep.dropB (R : Rep G (setB B I oI) es H h) (hI : B I = none) (hb : ∀ b o, G.base.get? b = some o → B b = some o) (hs : ∀ c o, c ≠ I → h.get? c = some o → h'.get? c = some o) : Rep G B es H h' := by
  have R' := R.popB hI hb
  exact R'.turn hs hI (fun p hp => (setB_none (R.free p hp).1).1) (fun p hp x c e => (setB_none ((R.free p hp).2 x c e)).1) fun a o e => .inl ⟨e, (R.at_ne hI hb e).1, (R.at_ne hI hb e).2⟩
theorem setB_comm {D : Addr} {oD : Obj} (hne : I ≠ D) : setB (setB B I oI) D oD = setB (setB B D oD) I oI := by
  funext b
  unfold setB
  by_cases h1 : b = D
  · subst h1; rw [if_pos rfl, if_neg (Ne.symm hne), if_pos rfl]
  · rw [if_neg h1]
    by_cases h2 : b = I
    · subst h2; rw [if_pos rfl, if_pos rfl]
    · rw [if_neg h2, if_neg h2, if_neg h1]

/-- what an iterator at I gives -/
structure Iter (G : Gd) (A : Around) (I : Addr) (len : Nat) (val : Nat → V) (S : Nat → Obj → Prop) (side : AHeap → Prop) : Prop where
  item : ∀ (i : Nat) (oI : Obj) (B : Addr → Option Obj) (es : List (Env × AMap)) (H : AHeap) (s : Shared) (Q : Option Value → Shared → Prop) (E : Value → Shared → Prop), i < len → S i oI → side H → B I = none → (∀ b o, G.base.get? b = some o → B b = some o) →
    Rep G (setB B I oI) es H s.heap → (∀ v oI' h' tk, abs v = val i → S (i + 1) oI' → Rep G (setB B I oI') es H h' → Q (some v) { s with heap := h', toks := tk }) → wpAny (model G.prog G.w) A (pyNext (.ref I)) Q E s
  done : ∀ (oI : Obj) (B : Addr → Option Obj) (es : List (Env × AMap)) (H : AHeap) (s : Shared) (Q : Option Value → Shared → Prop) (E : Value → Shared → Prop), S len oI → side H → B I = none → (∀ b o, G.base.get? b = some o → B b = some o) →
    Rep G (setB B I oI) es H s.heap → (∀ h' tk, Rep G B es H h' → Q none { s with heap := h', toks := tk }) → wpAny (model G.prog G.w) A (pyNext (.ref I)) Q E s
  self : ∀ (i : Nat) (oI : Obj) (B : Addr → Option Obj) (es : List (Env × AMap)) (H : AHeap) (s : Shared) (Q : Value → Shared → Prop) (E : Value → Shared → Prop), S i oI → Rep G (setB B I oI) es H s.heap → Q (.ref I) s → wpAny (model G.prog G.w) A (pyIter (.ref I)) Q E s

theorem setB_at : setB B I oI I = some oI := by unfold setB; rw [if_pos rfl]
theorem iter_list {A : Around} {vs : List V} (hh : A.handled = none) : Iter G A I vs.length (fun i => vs.getD i .none) (fun i o => o.cls = .type "list_iterator" ∧ o.data = .fields #[.ref a, .int i 0]) (fun H => H a = some (.list vs)) where
  item := fun i oI B es H s Q E hi hS hs hI hb R hQ => by
    obtain ⟨_, x2, ws, nn, x3, x4⟩ := R.obj _ _ hs
    have hit : s.heap.IsListIter I a i := ⟨oI, R.keep _ _ setB_at, hS.1, hS.2⟩
    have hL : s.heap.IsList a ws.toArray := ⟨_, x3, rfl, nn, rfl⟩
    have l1 : ws.length = vs.length := by rw [← x4, List.length_map]
    obtain ⟨w, hw⟩ : ∃ w, ws[i]? = some w := ⟨_, List.getElem?_eq_getElem (by omega)⟩
    refine wpAny_pyNext_list_item hit hL (x := w) (by simpa using hw) fun h' ⟨o', e1, e2, e3⟩ hs' => ?_
    refine hQ _ o' h' s.toks ?_ ⟨e2, e3⟩ (R.turnB hI hb (fun c o hc e => (hs'.2 c hc).trans e) e1)
    show abs w = vs.getD i .none
    have : vs[i]? = some (abs w) := by rw [← x4, List.getElem?_map, hw]; rfl
    rw [List.getD_eq_getElem?_getD, this]; rfl
  done := fun oI B es H s Q E hS hs hI hb R hQ => by
    obtain ⟨_, x2, ws, nn, x3, x4⟩ := R.obj _ _ hs
    have hit : s.heap.IsListIter I a vs.length := ⟨oI, R.keep _ _ setB_at, hS.1, hS.2⟩
    have hL : s.heap.IsList a ws.toArray := ⟨_, x3, rfl, nn, rfl⟩
    have l1 : ws.length = vs.length := by rw [← x4, List.length_map]
    exact wpAny_pyNext_list_end hh hit hL (by simp [l1]) fun h' he' => hQ h' s.toks (R.dropB hI hb fun c o hc e => he' c o hc e)
  self := fun i oI B es H s Q E hS R hQ => wpAny_pyIter_listiter (l := a) (i := i) ⟨oI, R.keep _ _ setB_at, hS.1, hS.2⟩ hQ
theorem iter_range {A : Around} {x c : Int} {len : Nat} (hh : A.handled = none) : Iter G A I len (fun i => .int (x + i * c)) (fun i o => o = { cls := .type "range_iterator", dict := none, data := .fields #[rawInt (x + (i : Nat) * c), rawInt ((len : Int) - (i : Nat)), rawInt c], slots := #[] }) (fun _ => True) where
  item := fun i oI B es H s Q E hi hS hs hI hb R hQ => by
    subst hS
    have hit : IsRangeIter s.heap I (x + (i : Nat) * c) ((len : Int) - (i : Nat)) c := R.keep _ _ setB_at
    refine wpAny_pyNext_range_item hit (by omega) fun h' hit' hs' => ?_
    have e1 : x + ((i + 1 : Nat) : Int) * c = x + (i : Int) * c + c := by push_cast; rw [Int.add_mul, Int.one_mul, Int.add_assoc]
    have e2 : (len : Int) - ((i + 1 : Nat) : Int) = (len : Int) - (i : Int) - 1 := by push_cast; omega
    refine hQ _ _ h' _ rfl rfl ?_
    rw [e1, e2]
    exact R.turnB hI hb (fun c o hc e => (hs'.2 c hc).trans e) hit'
  done := fun oI B es H s Q E hS hs hI hb R hQ => by
    subst hS
    have hit : IsRangeIter s.heap I (x + (len : Nat) * c) ((len : Int) - (len : Nat)) c := R.keep _ _ setB_at
    exact wpAny_pyNext_range_end hh hit (by omega) fun h' he' => hQ h' s.toks (R.dropB hI hb fun c o hc e => he' c o hc e)
  self := fun i oI B es H s Q E hS R hQ => by
    subst hS
    exact wpAny_pyIter_rangeiter (R.keep _ _ setB_at) hQ
end

section
variable {G : Gd} {n : Nat} {hd : Bool} {env : Env} {m : AMap} {H : AHeap} {kn : AMap → AHeap → Prop} {kr : V → AHeap → Prop} {x : XS} {xe : XE}

noncomputable def FPost (G : Gd) (B : Addr → Option Obj) (env : Env) (rest : List (Env × AMap)) (s : Shared) (kn : AMap → AHeap → Prop) (kr : V → AHeap → Prop) (f : Flow) (s' : Shared) : Prop :=
  ∃ h' tk H' m', s' = { s with heap := h', toks := tk } ∧ Rep G B ((env, m') :: rest) H' h' ∧ match f with
    | .next => kn m' H'
    | .ret v => kr (abs v) H'
    | _ => False
noncomputable def SX (G : Gd) (B : Addr → Option Obj) (fl : List Env) (env : Env) (rest : List (Env × AMap)) (s : Shared) (x : XS) (e : Value) (s' : Shared) : Prop :=
  ∃ h' tk H' m' a c, e = .ref a ∧ s' = { s with heap := h', toks := tk } ∧ Rep G B ((env, m') :: rest) H' h' ∧ Fly G B fl H' a c h' ∧ x c m' H'
/-- a statement in the frame env -/
noncomputable def SOk (G : Gd) (n : Nat) (hd : Bool) (env : Env) (t : Sem Flow) (m : AMap) (H : AHeap) (kn : AMap → AHeap → Prop) (kr : V → AHeap → Prop) (x : XS) : Prop :=
  ∀ (A : Around) (outer : List Env) (B : Addr → Option Obj) (rest : List (Env × AMap)) (s : Shared), AOk A hd n (env :: outer) → FlOk (env :: outer) ((env, m) :: rest) → Rep G B ((env, m) :: rest) H s.heap →
    wpAny (model G.prog G.w) A t (FPost G B env rest s kn kr) (SX G B (env :: outer) env rest s x) s

theorem FPost.trans {B : Addr → Option Obj} {rest : List (Env × AMap)} {s : Shared} {h : Heap} {tk : Nat} {f : Flow} {s' : Shared} (p : FPost G B env rest { s with heap := h, toks := tk } kn kr f s') : FPost G B env rest s kn kr f s' := by
  obtain ⟨h', tk', H', m', rfl, r⟩ := p; exact ⟨h', tk', H', m', rfl, r⟩
theorem SX.trans {B : Addr → Option Obj} {fl : List Env} {rest : List (Env × AMap)} {s : Shared} {h : Heap} {tk : Nat} {v : Value} {s' : Shared} (p : SX G B fl env rest { s with heap := h, toks := tk } x v s') : SX G B fl env rest s x v s' := by
  obtain ⟨h', tk', H', m', a, c, rfl, rfl, r⟩ := p; exact ⟨h', tk', H', m', a, c, rfl, rfl, r⟩
theorem SX.of {B : Addr → Option Obj} {fl : List Env} {rest : List (Env × AMap)} {s : Shared} {v : Value} {s' : Shared} (p : XPost G B fl ((env, m) :: rest) s (fun c => x c m) v s') : SX G B fl env rest s x v s' := by
  obtain ⟨h', tk', H', a, c, rfl, rfl, R, r⟩ := p; exact ⟨h', tk', H', m, a, c, rfl, rfl, R, r⟩
theorem SOk.nil (h : kn m H) : SOk G n hd env (execs [] env) m H kn kr x := fun A outer B rest s ha hf R => wpAny_execs_nil ⟨s.heap, s.toks, H, m, rfl, R, h⟩
theorem SOk.cons {st : Stmt} {r : List Stmt} (h : SOk G n hd env (exec st env) m H (fun m' H' => SOk G n hd env (execs r env) m' H' kn kr x) kr x) : SOk G n hd env (execs (st :: r) env) m H kn kr x := by
  intro A outer B rest s ha hf R
  refine wpAny_execs_cons (wpAny_mono (h A outer B rest s ha hf R) ?_ fun _ _ e => e)
  rintro f s1 ⟨h1, tk1, H1, m1, rfl, R1, q⟩
  cases f with
  | next => exact wpAny_mono (q A outer B rest _ ha hf.remap R1) (fun _ _ z => z.trans) fun _ _ z => z.trans
  | ret v => exact ⟨h1, tk1, H1, m1, rfl, R1, q⟩
  | brk => exact q.elim
  | cont => exact q.elim
/-- a tree, then a statement's end -/
theorem Ok.expr {α : Type} {t : Sem α} {k : α → AHeap → Prop} {A : Around} {outer : List Env} {B : Addr → Option Obj} {rest : List (Env × AMap)} {s : Shared} {Q : α → Shared → Prop} (h : Ok G n hd env m t H k (fun c => x c m)) (ha : AOk A hd n (env :: outer)) (hf : FlOk (env :: outer) ((env, m) :: rest)) (R : Rep G B ((env, m) :: rest) H s.heap)
    (hQ : ∀ v h1 tk1 H1, Rep G B ((env, m) :: rest) H1 h1 → k v H1 → Q v { s with heap := h1, toks := tk1 }) : wpAny (model G.prog G.w) A t Q (SX G B (env :: outer) env rest s x) s := by
  refine wpAny_mono (h A (env :: outer) B rest s ha hf R) ?_ fun _ _ e => SX.of e
  rintro v s1 ⟨h1, tk1, H1, rfl, R1, q⟩
  exact hQ v h1 tk1 H1 R1 q

structure EnvK (names : List (Str × NameKind)) (env : Env) : Prop where
  fn : env.scope.kind = .function
  kinds : env.scope.names = names
  cells : ∀ y, (names.lookup y = some .cell ∨ names.lookup y = some .free) → ∃ c, env.cells.lookup y = some c
structure EnvS (names : List (Str × NameKind)) (env : Env) : Prop extends EnvK names env where
  above : ∀ y c, env.cells.lookup y = some c → env.locals < c
theorem EnvK.kind {names : List (Str × NameKind)} (X : EnvK names env) (y : Str) : env.kindOf y = names.lookup y := by
  show env.scope.names.lookup y = _; rw [X.kinds]
noncomputable def storable (names : List (Str × NameKind)) (y : Str) : Bool := names.lookup y == some .local || names.lookup y == some .cell

/-- a name is bound -/
theorem store_ok {names : List (Str × NameKind)} {y : Str} {v : Value} {A : Around} {B : Addr → Option Obj} {rest : List (Env × AMap)} {s : Shared} {Q : Unit → Shared → Prop} {E : Value → Shared → Prop} (X : EnvK names env) (hab : names.lookup y = some .cell → ∀ c, env.cells.lookup y = some c → env.locals < c) (hy : storable names y = true)
    (R : Rep G B ((env, m) :: rest) H s.heap) (hQ : ∀ h1 tk1, Rep G B ((env, m.set y (abs v)) :: rest) H h1 → Q () { s with heap := h1, toks := tk1 }) : wpAny (model G.prog G.w) A (storeName env y v) Q E s := by
  unfold storable at hy
  rw [Bool.or_eq_true, beq_iff_eq, beq_iff_eq] at hy
  obtain ⟨ml, z1, z2⟩ := R.head.ns
  rcases hy with hy | hy
  · exact wpAny_storeName_local (by rw [X.kind]; exact hy) z1 (fun h1 hn hs => hQ h1 _ (R.setLocal z2 (by rw [X.kind]; exact hy) hn hs)) (by rw [R.head.kind]; rfl)
  · obtain ⟨c, hc⟩ := X.cells y (.inl hy)
    obtain ⟨v0, hv0⟩ := R.head.cells y c hc
    exact wpAny_storeName_cell R.head.kind (by rw [X.kind]; exact hy) hc hv0 fun h1 hn hs => hQ h1 s.toks (R.setCell (by rw [X.kind]; exact hy) hc (hab hy c hc) hn hs)

theorem assign_ok {names : List (Str × NameKind)} {y : Str} {p pos : Pos} {value : Expr} (X : EnvS names env) (hy : storable names y = true) (hs : swapsWith value (some (.Name y p)) pos.line env = pure false)
    (h : Ok G n hd env m (eval value env) H (fun v H1 => kn (m.set y (abs v)) H1) (fun c => x c m)) : SOk G n hd env (exec (.Assign [.Name y p] value pos) env) m H kn kr x := by
  intro A outer B rest s ha hf R
  refine wpAny_Assign_Name (h.expr ha hf R fun v h1 tk1 H1 R1 q => ?_) hs
  exact store_ok X.toEnvK (fun _ => X.above y) hy R1 fun h2 tk2 R2 => ⟨h2, tk2, H1, _, rfl, R2, q⟩
theorem expr_ok {e : Expr} {pos : Pos} (hs : swapsWith e none pos.line env = pure false) (hi : interactive env = false) (h : Ok G n hd env m (eval e env) H (fun _ H1 => kn m H1) (fun c => x c m)) : SOk G n hd env (exec (.Expr e pos) env) m H kn kr x := by
  intro A outer B rest s ha hf R
  exact wpAny_Expr_any (h.expr ha hf R fun v h1 tk1 H1 R1 q => ⟨h1, tk1, H1, m, rfl, R1, q⟩) hi hs
theorem ret_ok {e : Expr} {pos : Pos} (h : Ok G n hd env m (eval e env) H (fun v => kr (abs v)) (fun c => x c m)) : SOk G n hd env (exec (.Return (some e) pos) env) m H kn kr x := by
  intro A outer B rest s ha hf R
  exact wpAny_Return_some (h.expr ha hf R fun v h1 tk1 H1 R1 q => ⟨h1, tk1, H1, m, rfl, R1, q⟩)
theorem if_ok {t : Expr} {b o : List Stmt} {pos : Pos} (h : Ok G n hd env m (isTrue t env (eval t env)) H (fun r H1 => (r = true → SOk G n hd env (execs b env) m H1 kn kr x) ∧ (r = false → SOk G n hd env (execs o env) m H1 kn kr x)) (fun c => x c m)) :
    SOk G n hd env (exec (.If t b o pos) env) m H kn kr x := by
  intro A outer B rest s ha hf R
  refine wpAny_If (h.expr ha hf R fun r h1 tk1 H1 R1 q => ?_)
  cases r with
  | true => exact wpAny_mono (q.1 rfl A outer B rest _ ha hf R1) (fun _ _ z => z.trans) fun _ _ z => z.trans
  | false => exact wpAny_mono (q.2 rfl A outer B rest _ ha hf R1) (fun _ _ z => z.trans) fun _ _ z => z.trans
theorem setItem_stmt {o i value : Expr} {p pos : Pos} (hs : swapsWith value (some (.Subscript o i p)) pos.line env = pure false)
    (h : Ok G n hd env m (eval value env) H (fun v H1 => Ok G n hd env m (eval o env) H1 (fun u H2 => Ok G n hd env m (eval i env) H2 (fun t H3 => ∃ a vs j, abs u = .ref a ∧ abs t = .int j ∧ H3 a = some (.list vs) ∧ 0 ≤ j ∧ j < vs.length ∧ kn m (H3.upd a (.list (vs.set j.toNat (abs v))))) (fun c => x c m)) (fun c => x c m)) (fun c => x c m)) :
    SOk G n hd env (exec (.Assign [.Subscript o i p] value pos) env) m H kn kr x := by
  intro A outer B rest s ha hf R
  refine wpAny_Assign_Subscript (h.expr ha hf R fun v h1 tk1 H1 R1 q1 => ?_) hs
  refine wpAny_mono (Q := fun u s2 => wpAny (model G.prog G.w) A (eval i env) (fun iv s3 => wpAny (model G.prog G.w) A (setItem u iv v) (fun _ => FPost G B env rest s kn kr .next) (SX G B (env :: outer) env rest s x) s3) (SX G B (env :: outer) env rest s x) s2) (q1.expr ha hf R1 fun u h2 tk2 H2 R2 q2 => ?_) (fun _ _ z => z) fun _ _ z => z.trans
  refine wpAny_mono (Q := fun iv s3 => wpAny (model G.prog G.w) A (setItem u iv v) (fun _ => FPost G B env rest s kn kr .next) (SX G B (env :: outer) env rest s x) s3) (q2.expr ha hf R2 fun t h3 tk3 H3 R3 q3 => ?_) (fun _ _ z => z) fun _ _ z => z.trans.trans
  obtain ⟨a, vs, j, e1, e2, e3, e4, e5, q⟩ := q3
  obtain rfl := abs_ref e1
  obtain ⟨t', rfl⟩ := abs_int e2
  refine wpAny_mono (setItem_ok (x := fun _ _ => False) (k := fun _ H' => kn m H') e3 e4 e5 rfl q A (env :: outer) B rest _ ha hf R3) ?_ ?_
  · rintro _ s4 ⟨h4, tk4, H4, rfl, R4, q4⟩; exact ⟨h4, tk4, H4, m, rfl, R4, q4⟩
  · rintro _ s4 ⟨h4, tk4, H4, a, c, _, _, _, _, q4⟩; exact q4.elim

/-- the error of a loop's turn, noted, then back in the frame -/
theorem noted_ok {A : Around} {outer : List Env} {B : Addr → Option Obj} {rest : List (Env × AMap)} {s s' : Shared} {e : Value} {E : Value → Shared → Prop} (ha : AOk A hd n (env :: outer)) (hf : FlOk (env :: outer) ((env, m) :: rest)) (p : SX G B (env :: outer) env rest s x e s')
    (hE : ∀ h' tk H' m' a c, Rep G B ((env, m') :: rest) H' h' → FlyT G B H' a c (onP (rawInt env.locals)) h' → x c m' H' → E (.ref a) { s with heap := h', toks := tk }) : notedBy (model G.prog G.w) A env E e s' := by
  obtain ⟨h', tk, H', m', a, c, rfl, rfl, R, Y, q⟩ := p
  exact note_ok (s := { s with heap := h', toks := tk }) ha.frames hf.remap R Y fun h2 R2 Y2 => hE h2 tk H' m' a c R2 Y2 q
noncomputable def BackR (G : Gd) (A : Around) (B : Addr → Option Obj) (env : Env) (outer : List Env) (rest : List (Env × AMap)) (s : Shared) (kn : AMap → AHeap → Prop) (kr : V → AHeap → Prop) (x : XS) (r : Result) (s' : Shared) : Prop := match r with
  | .ok f => FPost G B env rest s kn kr f s'
  | .error e => cameBackBy (model G.prog G.w) A env (SX G B (env :: outer) env rest s x) e s'

theorem while_ok {t : Expr} {b : List Stmt} {pos : Pos} (I : Nat → AMap → AHeap → Prop) (j : Nat) (h0 : I j m H)
    (h : ∀ j m' H', I j m' H' → Ok G n hd env m' (isTrue t env (eval t env)) H' (fun r H2 => (r = true → SOk G n hd env (execs b env) m' H2 (fun m3 H3 => ∃ j', j' < j ∧ I j' m3 H3) kr x) ∧ (r = false → kn m' H2)) (fun c => x c m')) :
    SOk G n hd env (exec (.While t b [] pos) env) m H kn kr x := by
  intro A outer B rest s ha hf R
  refine wpAny_While ?_
  have err : ∀ {m0 : AMap} {e : Value} {s' : Shared}, SX G B (env :: outer) env rest s x e s' → notedBy (model G.prog G.w) A env (fun e s' => BackR G A B env outer rest s kn kr x (.error e) s') e s' := by
    intro m0 e s' p
    refine noted_ok ha hf p fun h' tk H' m' a c R' Y' q => ?_
    exact back_ok (s := { s with heap := h', toks := tk }) hf.remap R' Y' (fun z => z) fun h2 R2 Y2 => ⟨h2, tk, H', m', a, c, rfl, rfl, R2, Y2.mono fun _ z => onP_env z, q⟩
  refine codeAny_whileLoop (R := BackR G A B env outer rest s kn kr x) (fun j s' => ∃ h' tk H' m', s' = { s with heap := h', toks := tk } ∧ Rep G B ((env, m') :: rest) H' h' ∧ I j m' H') ?_ j ⟨s.heap, s.toks, H, m, rfl, R, h0⟩
  rintro j s' ⟨h', tk, H', m', rfl, R', hI⟩
  refine wpAny_mono (h j m' H' hI A (env :: outer) B rest _ ha hf.remap R') ?_ fun _ _ e => err (m0 := m') (SX.of e).trans
  rintro r s2 ⟨h2, tk2, H2, rfl, R2, q⟩
  cases r with
  | false => exact wpAny_execs_nil ⟨h2, tk2, H2, m', rfl, R2, q.2 rfl⟩
  | true =>
    refine wpAny_mono (q.1 rfl A outer B rest _ ha hf.remap R2) ?_ fun _ _ e => err (m0 := m') e.trans.trans
    rintro f s3 ⟨h3, tk3, H3, m3, rfl, R3, q3⟩
    cases f with
    | next => obtain ⟨j', hj, q3⟩ := q3; exact ⟨j', hj, h3, tk3, H3, m3, rfl, R3, q3⟩
    | ret v => exact ⟨h3, tk3, H3, m3, rfl, R3, q3⟩
    | brk => exact q3.elim
    | cont => exact q3.elim

/-- a loop over an iterator at I -/
theorem forLoop_ok {names : List (Str × NameKind)} {y : Str} {p : Pos} {b : List Stmt} {A : Around} {outer : List Env} {B : Addr → Option Obj} {rest : List (Env × AMap)} {s : Shared} {I : Addr} {oI : Obj} {len : Nat} {val : Nat → V} {S : Nat → Obj → Prop} {side : AHeap → Prop}
    (X : EnvS names env) (hy : storable names y = true) (It : Iter G A I len val S side) (J : Nat → AMap → AHeap → Prop) (ha : AOk A hd n (env :: outer)) (hf : FlOk (env :: outer) ((env, m) :: rest)) (hI : B I = none) (hS : S 0 oI) (R : Rep G (setB B I oI) ((env, m) :: rest) H s.heap) (h0 : J 0 m H) (hbase : ∀ b o, G.base.get? b = some o → B b = some o)
    (h : ∀ i m' H', i < len → J i m' H' → side H' ∧ SOk G n hd env (execs b env) (m'.set y (val i)) H' (J (i + 1)) kr x) (hend : ∀ m' H', J len m' H' → side H' ∧ kn m' H') :
    codeAny (model G.prog G.w) A (.forLoop (.Name y p) (.ref I) b [] env) (BackR G A B env outer rest s kn kr x) s := by
  have err : ∀ {oI : Obj} {e : Value} {s' : Shared}, SX G (setB B I oI) (env :: outer) env rest s x e s' → notedBy (model G.prog G.w) A env (fun e s' => BackR G A B env outer rest s kn kr x (.error e) s') e s' := by
    intro oI e s' p
    refine noted_ok ha hf p fun h' tk H' m' a c R' Y' q => ?_
    exact back_ok (s := { s with heap := h', toks := tk }) hf.remap R' Y' (fun z => z) fun h2 R2 Y2 => ⟨h2, tk, H', m', a, c, rfl, rfl, R2.popB hI hbase, (Y2.mono fun _ z => onP_env z).popB, q⟩
  refine codeAny_forLoop (R := BackR G A B env outer rest s kn kr x) (fun j s' => ∃ h' tk H' m' i oI, j + i = len ∧ s' = { s with heap := h', toks := tk } ∧ S i oI ∧ Rep G (setB B I oI) ((env, m') :: rest) H' h' ∧ J i m' H') ?_ len ⟨s.heap, s.toks, H, m, 0, oI, rfl, rfl, hS, R, h0⟩
  rintro j s' ⟨h', tk, H', m', i, oI, hj, rfl, hS, R', hJ⟩
  by_cases hi : i < len
  · obtain ⟨hside, hbody⟩ := h i m' H' hi hJ
    refine It.item i oI B _ H' _ _ _ hi hS hside hI hbase R' fun v oI' h2 tk2 hv hS2 R2 => ?_
    refine wpAny_assign_Name (store_ok (s := { s with heap := h2, toks := tk2 }) X.toEnvK (fun _ => X.above y) hy R2 fun h3 tk3 R3 => ?_)
    rw [hv] at R3
    refine wpAny_mono (hbody A outer _ rest _ ha hf.remap R3) ?_ fun _ _ e => err e.trans
    rintro f s4 ⟨h4, tk4, H4, m4, rfl, R4, q4⟩
    cases f with
    | next => exact ⟨j - 1, by omega, h4, tk4, H4, m4, i + 1, oI', by omega, rfl, hS2, R4, q4⟩
    | ret v => exact ⟨h4, tk4, H4, m4, rfl, R4.popB hI hbase, q4⟩
    | brk => exact q4.elim
    | cont => exact q4.elim
  · obtain rfl : i = len := by omega
    obtain ⟨hside, hk⟩ := hend m' H' hJ
    exact It.done oI B _ H' _ _ _ hS hside hI hbase R' fun h2 tk2 R2 => wpAny_execs_nil ⟨h2, tk2, H', m', rfl, R2, hk⟩

theorem forList_ok {names : List (Str × NameKind)} {y : Str} {p pos : Pos} {it : Expr} {b : List Stmt} (X : EnvS names env) (hy : storable names y = true) (hfold : ∀ v, foldedSetIterable it env v = pure v)
    (h : Ok G n false env m (eval it env) H (fun u H1 => ∃ a vs, abs u = .ref a ∧ H1 a = some (.list vs) ∧ ∃ I : Nat → AMap → AHeap → Prop, I 0 m H1 ∧
      (∀ i v m' H', vs[i]? = some v → I i m' H' → H' a = some (.list vs) ∧ SOk G n false env (execs b env) (m'.set y v) H' (fun m2 H2 => I (i + 1) m2 H2 ∧ H2 a = some (.list vs)) kr x) ∧ ∀ m' H', I vs.length m' H' → kn m' H') (fun c => x c m)) :
    SOk G n false env (exec (.For (.Name y p) it b [] pos) env) m H kn kr x := by
  intro A outer B rest s ha hf R
  refine wpAny_For (h.expr ha hf R fun u h1 tk1 H1 R1 q => ?_) hfold
  obtain ⟨a, vs, e1, e2, I, hI0, hstep, hend⟩ := q
  obtain rfl := abs_ref e1
  obtain ⟨_, x2, ws, nn, x3, x4⟩ := R1.obj _ _ e2
  refine wpAny_pyIter_list (s := { s with heap := h1, toks := tk1 }) ⟨_, x3, rfl, nn, rfl⟩ ?_
  have R2 := R1.pushB { cls := .type "list_iterator", data := .fields #[.ref a, .int 0 0] } rfl
  have hBI : B h1.objs.size = none := R1.freshB (Nat.le_refl _)
  have key := forLoop_ok (kn := kn) (kr := kr) (x := x) (b := b) (p := p) (s := { s with heap := h1.push { cls := .type "list_iterator", data := .fields #[.ref a, .int 0 0] }, toks := tk1 }) X hy (iter_list (G := G) (I := h1.objs.size) (a := a) (vs := vs) (ha.handled rfl)) (fun i m' H' => I i m' H' ∧ H' a = some (.list vs)) ha hf hBI ⟨rfl, rfl⟩ R2 ⟨hI0, e2⟩ R1.base ?_ ?_
  · refine codeAny_mono key fun r s' z => ?_
    cases r with
    | ok f => exact z.trans
    | error e =>
      unfold BackR cameBackBy at z
      unfold cameBackBy
      exact wpAny_mono z (fun _ _ y => y.trans) fun _ _ y => y.trans
  · rintro i m' H' hi ⟨hI, hside⟩
    have hv : vs[i]? = some (vs.getD i .none) := by rw [List.getD_eq_getElem?_getD, List.getElem?_eq_getElem hi]; rfl
    obtain ⟨z1, z2⟩ := hstep i _ m' H' hv hI
    exact ⟨z1, z2⟩
  · rintro m' H' ⟨hI, hside⟩
    exact ⟨hside, hend m' H' hI⟩
end
end Mine
end
section
namespace Mine
open PySem PySem.W PySem.Calls PyProof.Rows

theorem boot_range : bootBuiltins "range" = some (.type "range") := by decide +kernel
theorem rangeSize_up (a b : Int) : Builtin.Range.rangeSize a b 1 = ((b - a).toNat : Int) := by
  unfold Builtin.Range.rangeSize
  rw [if_pos (by decide)]
  split
  · rw [Int.ediv_one]; omega
  · omega
theorem rangeSize_dn (a b : Int) : Builtin.Range.rangeSize a b (-1) = ((a - b).toNat : Int) := by
  unfold Builtin.Range.rangeSize
  rw [if_neg (by decide)]
  split
  · rw [show (-(-1) : Int) = 1 from rfl, Int.ediv_one]; omega
  · omega
theorem range_small {a b c : Int} (hc : c = 1 ∨ c = -1) (ha : a.natAbs < 2 ^ 60) (hb : b.natAbs < 2 ^ 60) : Builtin.Range.small a b c = true ∧ Builtin.Range.rangeSize a b c = (rangeLen a b c : Int) := by
  have e : Builtin.Range.rangeSize a b c = (rangeLen a b c : Int) := by
    rcases hc with rfl | rfl
    · rw [rangeSize_up]; rfl
    · rw [rangeSize_dn]; rfl
  refine ⟨?_, e⟩
  unfold Builtin.Range.small
  rw [e]
  have hl : (rangeLen a b c : Int) < 2 ^ 62 := by
    unfold rangeLen
    split <;> omega
  unfold Builtin.Range.rangeFitsLong
  rcases hc with rfl | rfl
  · simp only [Bool.and_eq_true, Bool.or_eq_true, decide_eq_true_eq]
    refine ⟨⟨⟨⟨⟨?_, ?_⟩, ?_, ?_⟩, ?_, ?_⟩, ?_, ?_⟩, .inr ?_⟩ <;> first | omega | (rw [if_pos (by decide)]; simp only [Bool.and_eq_true, decide_eq_true_eq]; omega)
  · simp only [Bool.and_eq_true, Bool.or_eq_true, decide_eq_true_eq]
    refine ⟨⟨⟨⟨⟨?_, ?_⟩, ?_, ?_⟩, ?_, ?_⟩, ?_, ?_⟩, .inr ?_⟩ <;> first | omega | (rw [if_neg (by decide)]; simp only [Bool.and_eq_true, decide_eq_true_eq]; omega)
noncomputable def riter (a b c : Int) : Obj := { cls := .type "range_iterator", dict := none, data := .fields #[rawInt (a + ((0 : Nat) : Int) * c), rawInt ((rangeLen a b c : Int) - ((0 : Nat) : Int)), rawInt c], slots := #[] }

section
variable {G : Gd} {n : Nat} {hd : Bool} {env : Env} {m : AMap} {H : AHeap} {kn : AMap → AHeap → Prop} {kr : V → AHeap → Prop} {x : XS} {xe : XE} {names : List (Str × NameKind)}

theorem Gd.bi {f : Str} (hf : f ∈ biNames) : nsIn G.K mainGlobals f = some none := by
  have := List.all_eq_true.mp G.bis f hf
  exact beq_iff_eq.mp this
theorem ok_bi {f : Str} {pos : Pos} {v : Value} {k : Value → AHeap → Prop} (X : EnvK names env) (hk : names.lookup f = some .globalImplicit) (hf : f ∈ biNames) (hv : bootBuiltins f = some v) (h : k v H) : Ok G n hd env m (eval (.Name f pos) env) H k xe :=
  ok_built (by rw [X.kind]; exact hk) (G.bi hf) hv (by rintro rfl; revert hf; decide) (by
    rw [beq_eq_false_iff_ne]; rintro rfl; revert hf; decide) h

/-- a range, and its iterator -/
theorem range_ok {np pos : Pos} {args : List Expr} {A : Around} {fl : List Env} {B : Addr → Option Obj} {rest : List (Env × AMap)} {s : Shared} {E : Value → Shared → Prop} {Q : Value → Shared → Prop} {Kk : Int → Int → Int → AHeap → Prop} (X : EnvK names env) (hk : names.lookup ("range" : Str) = some .globalImplicit)
    (h : Args1 G n hd env m args H (fun us H1 => ∃ p q c, rangeOf us = some (p, q, c) ∧ p.natAbs < 2 ^ 60 ∧ q.natAbs < 2 ^ 60 ∧ Kk p q c H1) xe) (ha : AOk A hd n fl) (hf : FlOk fl ((env, m) :: rest)) (R : Rep G B ((env, m) :: rest) H s.heap) (hE : ∀ e s', XPost G B fl ((env, m) :: rest) s xe e s' → E e s')
    (hQ : ∀ h1 tk1 H1 p q c I, Rep G (setB B I (riter p q c)) ((env, m) :: rest) H1 h1 → B I = none → H1 I = none → Kk p q c H1 → Q (.ref I) { s with heap := h1, toks := tk1 }) :
    wpAny (model G.prog G.w) A (eval (.Call (.Name "range" np) args [] pos) env) (fun v s1 => wpAny (model G.prog G.w) A (pyIter v) Q E s1) E s := by
  refine Call_ ?_ rfl
  refine wpAny_mono (ok_bi (G := G) (hd := hd) (n := n) (xe := xe) (k := fun v H' => v = .type "range" ∧ H' = H) X hk (by decide) boot_range ⟨rfl, rfl⟩ A fl B rest s ha hf R) ?_ hE
  rintro f s0 ⟨h0, tk0, H0, rfl, R0, rfl, rfl⟩
  refine PyProof.Rows.callWith_type (plain_any h.star) (wpAny_mono (h.eval A fl B rest _ ha hf R0) ?_ fun e s' z => hE e s' z.trans)
  rintro ⟨ap, ak⟩ s1 ⟨h1, tk1, H1, rfl, R1, hkw, p, q, c, hr, hp, hq, hK⟩
  dsimp only at hkw hr
  subst hkw
  have fin : ∀ {t u v : Tok} {tk : Nat}, (c = 1 ∨ c = -1) → wpAny (model G.prog G.w) A (pyIter (.ref h1.objs.size)) Q E { s with heap := h1.push { cls := .type "range", data := .fields #[.int p t, .int q u, .int c v] }, toks := tk } := by
    intro t u v tk hc
    obtain ⟨s1, s2⟩ := range_small hc hp hq
    refine wpAny_pyIter_range (t := t) (u := u) (v := v) (Heap.get?_push_size _ rfl) s1 ?_
    rw [s2]
    have R2 := (R1.push { cls := .type "range", data := .fields #[.int p t, .int q u, .int c v] })
    have R3 := R2.pushB (riter p q c) rfl
    have e : ({ cls := .type "range_iterator", data := .fields #[rawInt p, rawInt (rangeLen p q c), rawInt c] } : Obj) = riter p q c := by
      unfold riter; simp
    rw [e]
    exact hQ _ _ _ p q c _ R3 (R2.freshB (Nat.le_refl _)) (R2.fresh (Nat.le_refl _)) hK
  have hints : ∀ {ws : List Value} {is : List Int}, ws.map abs = is.map V.int → IntsAre ws is := ints_of
  unfold rangeOf at hr
  split at hr
  · rename_i b hb
    cases hr
    obtain ⟨w, rfl, hw⟩ : ∃ w, ap = [w] ∧ abs w = .int q := by
      cases ap with
      | nil => simp at hb
      | cons w r => cases r with
        | nil => exact ⟨w, rfl, by simpa using hb⟩
        | cons _ _ => simp at hb
    obtain ⟨t, rfl⟩ := abs_int hw
    exact call_range_1 (fin (.inl rfl))
  · rename_i a b hb
    cases hr
    obtain ⟨w, w', rfl, hw, hw'⟩ : ∃ w w', ap = [w, w'] ∧ abs w = .int p ∧ abs w' = .int q := by
      cases ap with
      | nil => simp at hb
      | cons w r => cases r with
        | nil => simp at hb
        | cons w' r => cases r with
          | nil => exact ⟨w, w', rfl, by simpa using hb⟩
          | cons _ _ => simp at hb
    obtain ⟨t, rfl⟩ := abs_int hw
    obtain ⟨t', rfl⟩ := abs_int hw'
    exact call_range_2 (fin (.inl rfl))
  · rename_i a b c' hb
    split at hr
    · rename_i hc
      cases hr
      obtain ⟨w, w', w2, rfl, hw, hw', hw2⟩ : ∃ w w' w2, ap = [w, w', w2] ∧ abs w = .int p ∧ abs w' = .int q ∧ abs w2 = .int c := by
        cases ap with
        | nil => simp at hb
        | cons w r => cases r with
          | nil => simp at hb
          | cons w' r => cases r with
            | nil => simp at hb
            | cons w2 r => cases r with
              | nil => exact ⟨w, w', w2, rfl, by simpa using hb⟩
              | cons _ _ => simp at hb
      obtain ⟨t, rfl⟩ := abs_int hw
      obtain ⟨t', rfl⟩ := abs_int hw'
      obtain ⟨t2, rfl⟩ := abs_int hw2
      exact call_range_3 (by rcases hc with rfl | rfl <;> decide) (fin hc) (.inl (PyProof.noPylong_small (by rcases hc with rfl | rfl <;> decide)))
    · cases hr
  · cases hr

theorem folded_call {np pos : Pos} {args : List Expr} (v : Value) : foldedSetIterable (.Call (.Name "range" np) args [] pos) env v = pure v := rfl
theorem forRange_ok {y : Str} {p np cpos pos : Pos} {args : List Expr} {b : List Stmt} (X : EnvS names env) (hy : storable names y = true) (hk : names.lookup ("range" : Str) = some .globalImplicit)
    (h : Args1 G n false env m args H (fun us H1 => ∃ p q c, rangeOf us = some (p, q, c) ∧ p.natAbs < 2 ^ 60 ∧ q.natAbs < 2 ^ 60 ∧ ∃ I : Nat → AMap → AHeap → Prop, I 0 m H1 ∧
      (∀ i m' H', i < rangeLen p q c → I i m' H' → SOk G n false env (execs b env) (m'.set y (.int (p + i * c))) H' (I (i + 1)) kr x) ∧ ∀ m' H', I (rangeLen p q c) m' H' → kn m' H') (fun c => x c m)) :
    SOk G n false env (exec (.For (.Name y p) (.Call (.Name "range" np) args [] cpos) b [] pos) env) m H kn kr x := by
  intro A outer B rest s ha hf R
  refine wpAny_For ?_ folded_call
  refine range_ok X.toEnvK hk h ha hf R (fun e s' z => SX.of z) fun h1 tk1 H1 p' q' c' I R1 hB hH hK => ?_
  obtain ⟨J, hJ0, hstep, hend⟩ := hK
  have hbase : ∀ b o, G.base.get? b = some o → B b = some o := R.base
  have key := forLoop_ok (kn := kn) (kr := kr) (x := x) (b := b) (p := p) (s := { s with heap := h1, toks := tk1 }) X hy (iter_range (G := G) (I := I) (x := p') (c := c') (len := rangeLen p' q' c') (ha.handled rfl)) J ha hf hB rfl R1 hJ0 hbase (fun i m' H' hi hJ => ⟨trivial, hstep i m' H' hi hJ⟩) fun m' H' hJ => ⟨trivial, hend m' H' hJ⟩
  refine codeAny_mono key fun r s' z => ?_
  cases r with
  | ok f => exact z.trans
  | error e =>
    unfold BackR cameBackBy at z
    unfold cameBackBy
    exact wpAny_mono z (fun _ _ y => y.trans) fun _ _ y => y.trans
end

/-- the cells that a comprehension sees -/
noncomputable def closOf (cells : List (Str × Addr)) : List (Str × NameKind) → List (Str × Addr) → List (Str × Addr)
  | [], acc => acc
  | (y, k) :: r, acc => if k == .free then closOf cells r ((y, (cells.lookup y).getD 0) :: acc) else closOf cells r acc
theorem closureFor_eq {scope : Scope} {env : Env} (h : ∀ y, (y, NameKind.free) ∈ scope.names → ∃ c, env.cells.lookup y = some c) : closureFor scope env = pure (closOf env.cells scope.names []) := by
  have key : ∀ (l : List (Str × NameKind)) (acc : List (Str × Addr)) (f : Str × NameKind → List (Str × Addr) → Sem (ForInStep (List (Str × Addr)))), (∀ y, (y, NameKind.free) ∈ l → ∃ c, env.cells.lookup y = some c) →
      (∀ y k cs, f (y, k) cs = if k == .free then (do let c ← cellOf env y; pure (.yield ((y, c) :: cs))) else pure (.yield cs)) → forIn l acc f = pure (closOf env.cells l acc) := by
    intro l
    induction l with
    | nil => intro acc f _ _; rw [List.forIn_nil]; rfl
    | cons p r ih =>
      obtain ⟨y, k⟩ := p
      intro acc f hl hf
      rw [List.forIn_cons, hf]
      unfold closOf
      by_cases hk : (k == .free) = true
      · rw [if_pos hk, if_pos hk]
        obtain ⟨c, hc⟩ := hl y (by rw [beq_iff_eq] at hk; subst hk; exact .head _)
        have e : cellOf env y = pure c := by unfold cellOf; rw [hc]
        rw [e, hc]
        exact ih _ f (fun y hy => hl y (.tail _ hy)) hf
      · rw [if_neg hk, if_neg hk]
        exact ih _ f (fun y hy => hl y (.tail _ hy)) hf
  unfold closureFor
  refine (congrArg (· >>= fun cs => pure cs) (key scope.names [] _ h fun y k cs => ?_)).trans rfl
  cases hk : k == NameKind.free <;> simp [hk]
theorem closOf_mem {cells : List (Str × Addr)} : ∀ {l : List (Str × NameKind)} {acc : List (Str × Addr)} {y : Str} {c : Addr}, (y, c) ∈ closOf cells l acc → (y, c) ∈ acc ∨ ((y, NameKind.free) ∈ l ∧ c = (cells.lookup y).getD 0)
  | [], _, _, _, h => .inl h
  | (z, k) :: r, acc, y, c, h => by
    unfold closOf at h
    split at h
    · rename_i hk
      rw [beq_iff_eq] at hk; subst hk
      rcases closOf_mem h with h | ⟨h1, h2⟩
      · rcases List.mem_cons.mp h with e | h
        · cases e; exact .inr ⟨.head _, rfl⟩
        · exact .inl h
      · exact .inr ⟨.tail _ h1, h2⟩
    · rcases closOf_mem h with h | ⟨h1, h2⟩
      · exact .inl h
      · exact .inr ⟨.tail _ h1, h2⟩
theorem closOf_acc {cells : List (Str × Addr)} : ∀ {l : List (Str × NameKind)} {acc : List (Str × Addr)} {p : Str × Addr}, p ∈ acc → p ∈ closOf cells l acc
  | [], _, _, h => h
  | (z, k) :: r, acc, p, h => by
    unfold closOf
    split
    · exact closOf_acc (.tail _ h)
    · exact closOf_acc h
theorem closOf_has {cells : List (Str × Addr)} : ∀ {l : List (Str × NameKind)} {acc : List (Str × Addr)} {y : Str}, (y, NameKind.free) ∈ l → (y, (cells.lookup y).getD 0) ∈ closOf cells l acc
  | (z, k) :: r, acc, y, h => by
    unfold closOf
    rcases List.mem_cons.mp h with e | h
    · cases e; rw [if_pos (by decide)]; exact closOf_acc (.head _)
    · split
      · exact closOf_has h
      · exact closOf_has h
theorem lookup_of_mem {α : Type} : ∀ {l : List (Str × α)} {y : Str} {c : α}, (y, c) ∈ l → ∃ c', l.lookup y = some c' ∧ (y, c') ∈ l
  | (z, d) :: r, y, c, h => by
    rw [List.lookup_cons]
    cases hb : y == z with
    | true => rw [beq_iff_eq] at hb; subst hb; exact ⟨d, rfl, .head _⟩
    | false =>
      rcases List.mem_cons.mp h with e | h
      · cases e; simp at hb
      · obtain ⟨c', h1, h2⟩ := lookup_of_mem h
        exact ⟨c', h1, .tail _ h2⟩
theorem closOf_lookup {cells : List (Str × Addr)} {l : List (Str × NameKind)} {y : Str} {c : Addr} (h : (y, NameKind.free) ∈ l) (hc : cells.lookup y = some c) : (closOf cells l []).lookup y = some c := by
  obtain ⟨c', h1, h2⟩ := lookup_of_mem (closOf_has (cells := cells) (acc := []) h)
  rcases closOf_mem h2 with h3 | ⟨_, h3⟩
  · cases h3
  · rw [h1, h3, hc]; rfl
theorem closOf_apart {cells : List (Str × Addr)} (hp : cells.Pairwise fun x y => x.2 ≠ y.2) : ∀ {l : List (Str × NameKind)} {acc : List (Str × Addr)}, (l.map (·.1)).Nodup → (∀ y, (y, NameKind.free) ∈ l → ∃ c, cells.lookup y = some c) →
    (∀ p ∈ acc, cells.lookup p.1 = some p.2 ∧ p.1 ∉ l.map (·.1)) → (acc.Pairwise fun x y => x.2 ≠ y.2) → (closOf cells l acc).Pairwise fun x y => x.2 ≠ y.2
  | [], _, _, _, _, h => h
  | (z, k) :: r, acc, hn, hl, ha, h => by
    rw [List.map_cons, List.nodup_cons] at hn
    unfold closOf
    have ha' : ∀ p ∈ acc, cells.lookup p.1 = some p.2 ∧ p.1 ∉ r.map (·.1) := fun p hp => ⟨(ha p hp).1, fun q => (ha p hp).2 (.tail _ q)⟩
    split
    · rename_i hk
      rw [beq_iff_eq] at hk; subst hk
      obtain ⟨c, hc⟩ := hl z (.head _)
      refine closOf_apart hp hn.2 (fun y hy => hl y (.tail _ hy)) (fun p hp' => ?_) (List.pairwise_cons.mpr ⟨fun q hq => ?_, h⟩)
      · rcases List.mem_cons.mp hp' with rfl | hp'
        · exact ⟨by rw [hc]; rfl, hn.1⟩
        · exact ha' p hp'
      · rw [hc]
        show c ≠ q.2
        intro e
        have h1 := mem_of_lookup hc
        have h2 := mem_of_lookup (ha q hq).1
        rw [← e] at h2
        have := name_of_addr hp h1 h2
        exact (ha q hq).2 (by rw [← this]; exact .head _)
    · exact closOf_apart hp hn.2 (fun y hy => hl y (.tail _ hy)) ha' h
noncomputable def nodupB : List Str → Bool
  | [] => true
  | y :: r => !r.contains y && nodupB r
theorem nodup_of : ∀ {l : List Str}, nodupB l = true → l.Nodup
  | [], _ => .nil
  | y :: r, h => by
    unfold nodupB at h
    rw [Bool.and_eq_true, Bool.not_eq_true'] at h
    refine List.nodup_cons.mpr ⟨fun hm => ?_, nodup_of h.2⟩
    have : r.contains y = true := List.contains_iff_mem.mpr hm
    rw [h.1] at this; cases this
noncomputable def relN (names : List (Str × NameKind)) (l : List (Str × NameKind)) : List (Str × NameKind) := l.map fun (y, k) => if (k == .free && names.lookup y == some .cell) then (y, .cell) else (y, k)
noncomputable def compOk (names : List (Str × NameKind)) (scope : Scope) (y : Str) (fv : List Str) : Bool := decide (scope.kind = .function) && (scope.names.all fun p => p.2 != .cell || p.1 == y) && nodupB (scope.names.map (·.1)) && (scope.names.lookup y == some .local || scope.names.lookup y == some .cell) &&
  (fv.all fun z => scope.names.lookup z == some .free) && (scope.names.all fun p => p.2 != .free || names.lookup p.1 == some .cell || names.lookup p.1 == some .free) && !fv.contains y && (scope.names.all fun p => p.2 != .local || scope.names.lookup p.1 == some .local)
theorem relN_lookup {names : List (Str × NameKind)} : ∀ {l : List (Str × NameKind)} {y : Str}, (relN names l).lookup y = (l.lookup y).map fun k => if (k == .free && names.lookup y == some .cell) then .cell else k
  | [], _ => rfl
  | (z, k) :: r, y => by
    have e : relN names ((z, k) :: r) = (z, if (k == .free && names.lookup z == some .cell) then NameKind.cell else k) :: relN names r := by
      unfold relN
      rw [List.map_cons]
      congr 1
      by_cases hc : (k == NameKind.free && names.lookup z == some NameKind.cell) = true
      · simp only [hc, if_true]
      · simp only [hc]; rfl
    rw [e, List.lookup_cons, List.lookup_cons]
    cases hb : y == z with
    | true => rw [beq_iff_eq] at hb; subst hb; rfl
    | false => exact relN_lookup
/-- the cells of a new frame -/
structure NewCells (h h' : Heap) (names : List (Str × NameKind)) (cs cs' : List (Str × Addr)) : Prop where
  keep : ∀ b o, h.get? b = some o → h'.get? b = some o
  mem : ∀ z c, (z, c) ∈ cs' → (z, c) ∈ cs ∨ ((z, NameKind.cell) ∈ names ∧ h.objs.size ≤ c ∧ h'.IsCell c none)
  old : ∀ z, (z, NameKind.cell) ∉ names → cs'.lookup z = cs.lookup z
  own : ∀ z, (z, NameKind.cell) ∈ names → ∃ c, cs'.lookup z = some c ∧ h.objs.size ≤ c
  apart : (∀ p ∈ cs, p.2 < h.objs.size) → (cs.Pairwise fun x y => x.2 ≠ y.2) → cs'.Pairwise fun x y => x.2 ≠ y.2
theorem push_size {h : Heap} {o : Obj} : (h.push o).objs.size = h.objs.size + 1 := by
  cases h; simp [Heap.push]
theorem cells_loop {M : Model} {A : Around} {E : Value → Shared → Prop} {Q : List (Str × Addr) → Shared → Prop} {f : Str × NameKind → List (Str × Addr) → Sem (ForInStep (List (Str × Addr)))}
    (hf : ∀ y k cs, f (y, k) cs = if k == .cell then (do let c ← alloc { cls := .type "cell", data := .cell none }; pure (.yield ((y, c) :: cs))) else pure (.yield cs)) :
    ∀ (names : List (Str × NameKind)) (cs : List (Str × Addr)) (s : Shared), (∀ h' cs', NewCells s.heap h' names cs cs' → Q cs' { s with heap := h' }) → wpAny M A (forIn names cs f) Q E s
  | [], cs, s, h => by
    rw [List.forIn_nil]
    exact wpAny_pure (h s.heap cs ⟨fun _ _ e => e, fun _ _ e => .inl e, fun _ _ => rfl, fun _ e => (by cases e), fun _ p => p⟩)
  | (y, k) :: r, cs, s, h => by
    rw [List.forIn_cons, hf]
    by_cases hk : k = .cell
    · subst hk
      rw [if_pos (by decide)]
      refine wpAny_bind (wpAny_bind (wpAny_alloc (wpAny_pure ?_)))
      refine cells_loop hf r _ _ fun h' cs' C => h h' cs' ?_
      dsimp only at C
      have hlt : s.heap.objs.size < (s.heap.push { cls := .type "cell", data := .cell none }).objs.size := by rw [push_size]; exact Nat.lt_succ_self _
      refine ⟨fun b o e => C.keep b o (Heap.get?_push_of_some _ e), fun z c hm => ?_, fun z hz => ?_, fun z hz => ?_, fun hp p => ?_⟩
      · rcases C.mem z c hm with q | ⟨q1, q2, q3⟩
        · rcases List.mem_cons.mp q with q | q
          · cases q
            exact .inr ⟨.head _, Nat.le_refl _, ⟨_, C.keep _ _ (Heap.get?_push_size _ rfl), rfl⟩⟩
          · exact .inl q
        · exact .inr ⟨.tail _ q1, Nat.le_trans (Nat.le_of_lt hlt) q2, q3⟩
      · rw [C.old z (fun q => hz (.tail _ q)), List.lookup_cons]
        have : (z == y) = false := by rw [beq_eq_false_iff_ne]; rintro rfl; exact hz (.head _)
        rw [this]
      · by_cases q : (z, NameKind.cell) ∈ r
        · obtain ⟨c, h1, h2⟩ := C.own z q
          exact ⟨c, h1, Nat.le_trans (Nat.le_of_lt hlt) h2⟩
        · have : z = y := by
            rcases List.mem_cons.mp hz with e | e
            · cases e; rfl
            · exact absurd e q
          subst this
          exact ⟨_, (C.old z q).trans List.lookup_cons_self, Nat.le_refl _⟩
      · refine C.apart (fun q hq => ?_) (List.pairwise_cons.mpr ⟨fun q hq => Ne.symm (Nat.ne_of_lt (hp q hq)), p⟩)
        rcases List.mem_cons.mp hq with rfl | hq
        · exact hlt
        · exact Nat.lt_trans (hp q hq) hlt
    · rw [if_neg (by rw [beq_iff_eq]; exact hk)]
      refine wpAny_bind (wpAny_pure ?_)
      refine cells_loop hf r _ _ fun h' cs' C => h h' cs' ?_
      refine ⟨C.keep, fun z c hm => ?_, fun z hz => C.old z (fun q => hz (.tail _ q)), fun z hz => ?_, C.apart⟩
      · rcases C.mem z c hm with q | ⟨q1, q2, q3⟩
        · exact .inl q
        · exact .inr ⟨.tail _ q1, q2, q3⟩
      · rcases List.mem_cons.mp hz with e | e
        · cases e; exact absurd rfl hk
        · exact C.own z e
theorem newEnv_ok {M : Model} {A : Around} {E : Value → Shared → Prop} {s : Shared} {scope : Scope} {globals : Addr} {closure : List (Str × Addr)} {qual : Str} {env : Env} {Q : Env → Shared → Prop}
    (h : ∀ h' cs', NewCells (s.heap.push { cls := .type "dict", data := .dict #[] }) h' scope.names closure cs' → h'.Ns s.heap.objs.size (fun _ => none) →
      Q (newEnv scope s.heap.objs.size globals cs' qual none .none (some env) builtinsNs) { s with heap := h' }) :
    wpAny M A (newFunctionEnv scope globals closure [] qual none .none (some env)) Q E s := by
  unfold newFunctionEnv
  refine wpAny_bind (wpAny_alloc ?_)
  refine wpAny_bind (cells_loop (fun y k cs => rfl) _ _ _ fun h' cs' C => ?_)
  refine wpAny_bind ?_
  rw [List.forIn_nil]
  refine wpAny_pure (wpAny_pure (h h' cs' C ?_))
  exact ⟨_, _, _, C.keep _ _ (Heap.get?_push_size _ rfl), rfl, (by intro e he; simp at he), fun _ => rfl⟩
theorem lookup_nodup {α : Type} : ∀ {l : List (Str × α)} {z : Str} {k : α}, (l.map (·.1)).Nodup → (z, k) ∈ l → l.lookup z = some k
  | (y, k') :: r, z, k, hn, hm => by
    rw [List.map_cons, List.nodup_cons] at hn
    rw [List.lookup_cons]
    rcases List.mem_cons.mp hm with e | e
    · cases e; rw [beq_self_eq_true]
    · have : (z == y) = false := by rw [beq_eq_false_iff_ne]; rintro rfl; exact hn.1 (List.mem_map.mpr ⟨_, e, rfl⟩)
      rw [this]; exact lookup_nodup hn.2 e
end Mine
end
section
namespace Mine
open PySem PySem.W PySem.Calls PyProof.Rows

section
variable {G : Gd} {n : Nat} {hd : Bool} {env cenv : Env} {m m0 : AMap} {H : AHeap} {names names' : List (Str × NameKind)} {B : Addr → Option Obj} {es rest : List (Env × AMap)} {h h' : Heap}

theorem Rep.offC (R : Rep G B ((cenv, m0) :: es) H h) : B cenv.locals = none ∧ (∀ p ∈ es, p.1.locals ≠ cenv.locals) ∧ (∀ p ∈ es, ∀ x c, p.1.cells.lookup x = some c → c ≠ cenv.locals) ∧ ∀ a o, H a = some o → a ≠ cenv.locals ∧ ((∃ f, o = .board f) → cenv.locals + 1 ≠ a) := by
  obtain ⟨oL, _, _, eL, dL⟩ := R.head.obj
  refine ⟨(R.free _ (.head _)).1, fun p hp => Nat.ne_of_lt (R.apart.1 p.1 (List.mem_map.mpr ⟨p, hp, rfl⟩)).1, fun p hp x c e => Nat.ne_of_lt ((R.apart.1 p.1 (List.mem_map.mpr ⟨p, hp, rfl⟩)).2 x c e), fun a o e => ⟨?_, ?_⟩⟩
  · rintro rfl
    rcases (R.obj _ o e).data eL with ⟨_, _, y⟩ | y | ⟨_, y⟩ <;> (rw [dL] at y; cases y)
  · rintro ⟨f, rfl⟩ q
    obtain ⟨C, dx, es', k, sl, y0, y1, y2, y3, y4, y5, y6, y7⟩ := R.obj _ _ e
    exact y6 (by rw [succ_inj y0 q]; exact .head _)
/-- a list under work -/
noncomputable def lobj (ws : List Value) (k : Nat) : Obj := ⟨.type "list", none, .seq ws.toArray k, #[]⟩

theorem compLoop_ok {elt iter : Expr} {y : Str} {px pos : Pos} {ifs : List Expr} {scope : Scope} {A : Around} {fl : List Env} {s : Shared} {I D : Addr} {oI : Obj} {len : Nat} {val : Nat → V} {S : Nat → Obj → Prop} {side : AHeap → Prop} {RR : Result → Shared → Prop}
    (Xc : EnvK names' cenv) (hy : storable names' y = true) (hab : ∀ c, names'.lookup y = some .cell → cenv.cells.lookup y = some c → cenv.locals < c) (It : Iter G A I len val S side) (J : Nat → List V → AHeap → Prop) (hlen : len ≤ 1000) (ha : AOk A hd n fl) (hf : FlOk fl ((cenv, m0) :: es)) (hm0 : m0 y = none) (hI : B I = none) (hD : B D = none) (hne : I ≠ D) (hS : S 0 oI)
    (hbase : ∀ b o, G.base.get? b = some o → B b = some o) (R : Rep G (setB (setB B D (lobj [] 0)) I oI) ((cenv, m0) :: es) H s.heap) (h0 : J 0 [] H)
    (step : ∀ i ys H', i < len → J i ys H' → ys.length ≤ i ∧ side H' ∧ Ok G n hd cenv (m0.set y (val i)) (forIn ifs true fun c r => if r = true then do let ok ← isTrue c cenv (eval c cenv); pure (ForInStep.yield ok) else pure (ForInStep.yield r)) H'
      (fun b H2 => (b = true → Ok G n hd cenv (m0.set y (val i)) (eval elt cenv) H2 (fun z H3 => J (i + 1) (ys ++ [abs z]) H3) fun _ _ => False) ∧ (b = false → J (i + 1) ys H2)) fun _ _ => False)
    (hend : ∀ ys H', J len ys H' → side H')
    (hR : ∀ h' tk ys H' ws k, ws.map abs = ys → Rep G (setB B D (lobj ws k)) ((cenv, m0) :: es) H' h' → J len ys H' → ys.length ≤ 1000 → RR (.ok .next) { s with heap := h', toks := tk }) :
    codeAny (model G.prog G.w) A (.compLoop (.ListComp elt [⟨.Name y px, iter, ifs, 0⟩] scope pos) 0 (.ref I) (.ref D) cenv) RR s := by
  have noE : ∀ {B0 : Addr → Option Obj} {m' : AMap} {s' s'' : Shared} {e : Value} {F : Value → Shared → Prop}, XPost G B0 fl ((cenv, m') :: es) s' (fun _ _ => False) e s'' → notedBy (model G.prog G.w) A cenv F e s'' := by
    rintro B0 m' s' s'' e F ⟨_, _, _, _, _, _, _, _, _, q⟩; exact q.elim
  have hbD : ∀ {o : Obj} b o', G.base.get? b = some o' → setB B D o b = some o' := fun b o' e => by
    unfold setB; rw [if_neg (fun q => by have := hbase b o' e; rw [q, hD] at this; cases this)]; exact hbase b o' e
  have hbI : ∀ {o : Obj} b o', G.base.get? b = some o' → setB B I o b = some o' := fun b o' e => by
    unfold setB; rw [if_neg (fun q => by have := hbase b o' e; rw [q, hI] at this; cases this)]; exact hbase b o' e
  have hDI : ∀ {o : Obj}, setB B D o I = none := by intro o; unfold setB; rw [if_neg hne]; exact hI
  have hID : ∀ {o : Obj}, setB B I o D = none := by intro o; unfold setB; rw [if_neg (Ne.symm hne)]; exact hD
  refine codeAny_compLoop_tests (fun j s' => ∃ h' tk H' i oI ys ws k, j + i = len ∧ s' = { s with heap := h', toks := tk } ∧ S i oI ∧ ws.map abs = ys ∧ ys.length ≤ i ∧ Rep G (setB (setB B D (lobj ws k)) I oI) ((cenv, m0) :: es) H' h' ∧ J i ys H') ?_ len ⟨s.heap, s.toks, H, 0, oI, [], [], 0, rfl, rfl, hS, rfl, Nat.le_refl _, R, h0⟩
  rintro j s' ⟨h', tk, H', i, oI, ys, ws, k, hj, rfl, hS, hw, hli, R', hJ⟩
  by_cases hi : i < len
  · obtain ⟨hl, hside, hbody⟩ := step i ys H' hi hJ
    refine It.item i oI _ _ H' _ _ _ hi hS hside hDI hbD R' fun v oI' h2 tk2 hv hS2 R2 => ?_
    refine wpAny_assign_Name (store_ok (s := { s with heap := h2, toks := tk2 }) Xc (fun q c => hab c q) hy R2 fun h3 tk3 R3 => ?_)
    rw [hv] at R3
    have back : ∀ {B0 : Addr → Option Obj} {h : Heap} {H0 : AHeap}, Rep G B0 ((cenv, m0.set y (val i)) :: es) H0 h → Rep G B0 ((cenv, m0) :: es) H0 h := fun r => r.weakM fun z v' e => by
      unfold AMap.set
      split
      · rename_i q; subst q; rw [hm0] at e; cases e
      · exact e
    refine wpAny_mono (hbody A fl _ es _ ha hf.remap R3) ?_ fun _ _ z => noE z
    rintro b s4 ⟨h4, tk4, H4, rfl, R4, q4⟩
    cases b with
    | false => exact ⟨j - 1, by omega, h4, tk4, H4, i + 1, oI', ys, ws, k, by omega, rfl, hS2, hw, by omega, back R4, q4.2 rfl⟩
    | true =>
      refine wpAny_mono (q4.1 rfl A fl _ es _ ha hf.remap R4) ?_ fun _ _ z => noE z
      rintro z s5 ⟨h5, tk5, H5, rfl, R5, q5⟩
      have hDat : h5.get? D = some (lobj ws k) := R5.keep _ _ (by unfold setB; rw [if_neg (Ne.symm hne), if_pos rfl])
      have l1 : ws.length = ys.length := by rw [← hw, List.length_map]
      refine append_at (s := { s with heap := h5, toks := tk5 }) hDat (fun h6 hs6 ho6 => ?_) (by rw [List.size_toArray, l1, sizeLine_eq]; omega)
      refine ⟨j - 1, by omega, h6, tk5, H5, i + 1, oI', ys ++ [abs z], ws ++ [z], k + 1, by omega, rfl, hS2, by rw [List.map_append, hw]; rfl, by rw [List.length_append, List.length_singleton]; omega, ?_, q5⟩
      have R5' := back R5
      rw [← setB_comm hne] at R5'
      rw [← setB_comm hne]
      refine R5'.turnB hID hbI (fun c o hc e => (hs6.2 c hc).trans e) ?_
      rw [ho6]; simp [lobj]
  · obtain rfl : i = len := by omega
    exact It.done oI _ _ H' _ _ _ hS (hend ys H' hJ) hDI hbD R' fun h2 tk2 R2 => hR h2 tk2 ys H' ws k hw R2 hJ (by omega)

structure CompOk (names : List (Str × NameKind)) (scope : Scope) (y : Str) (fv : List Str) : Prop where
  kind : scope.kind = .function
  cells : ∀ p ∈ scope.names, p.2 = .cell → p.1 = y
  nodup : (scope.names.map (·.1)).Nodup
  var : scope.names.lookup y = some .local ∨ scope.names.lookup y = some .cell
  fvs : ∀ z ∈ fv, scope.names.lookup z = some .free
  frees : ∀ z, (z, NameKind.free) ∈ scope.names → names.lookup z = some .cell ∨ names.lookup z = some .free
  notin : y ∉ fv
  locals : ∀ p ∈ scope.names, p.2 = .local → scope.names.lookup p.1 = some .local
theorem compOk_of {scope : Scope} {y : Str} {fv : List Str} (h : compOk names scope y fv = true) : CompOk names scope y fv := by
  unfold compOk at h
  simp only [Bool.and_eq_true, decide_eq_true_eq, beq_iff_eq, List.all_eq_true, bne_iff_ne, ne_eq, Bool.or_eq_true, Bool.not_eq_true'] at h
  obtain ⟨⟨⟨⟨⟨⟨⟨h1, h2⟩, h3⟩, h4⟩, h5⟩, h6⟩, h7⟩, h8⟩ := h
  refine ⟨h1, fun p hp e => (h2 p hp).resolve_left (fun q => q e), nodup_of h3, h4, fun z hz => h5 z hz, fun z hz => ?_, fun hm => ?_, fun p hp hl => ?_⟩
  · rcases h6 _ hz with (h | h) | h
    · exact absurd rfl h
    · exact .inl h
    · exact .inr h
  · have := List.contains_iff_mem.mpr hm; rw [h7] at this; cases this
  · rcases h8 p hp with h | h
    · exact absurd hl h
    · exact h
theorem relabel_names {scope : Scope} (X : EnvK names env) (hk : env.scope.kind = .function) : (relabel scope env).names = relN names scope.names := by
  unfold relabel relN
  refine List.map_congr_left fun p _ => ?_
  obtain ⟨z, k⟩ := p
  show (if (k == NameKind.free && env.scope.kind == .function && env.kindOf z == some .cell) = true then _ else _) = _
  rw [hk, X.kind z]
  have : (ScopeKind.function == ScopeKind.function) = true := by decide
  rw [this, Bool.and_true]

noncomputable def UseOk (G : Gd) (A : Around) (E : Value → Shared → Prop) (B : Addr → Option Obj) (env : Env) (m : AMap) (rest : List (Env × AMap)) (use : Option (Value → Sem Unit)) (Q : Value → Shared → Prop) (s : Shared) (k : V → AHeap → Prop) : Prop :=
  ∀ (D : Addr) (cenv : Env) (m0 : AMap) (h' : Heap) (tk : Nat) (H' : AHeap) (ws : List Value) (j : Nat) (ys : List V), B D = none → Rep G (setB B D (lobj ws j)) ((cenv, m0) :: (env, m) :: rest) H' h' → ws.map abs = ys → ys.length ≤ 1000 → k (.ref D) (H'.upd D (.list ys)) →
    compPost (model G.prog G.w) A E use Q (.ref D) cenv.locals (.ok .next) { s with heap := h', toks := tk }

/-- what a comprehension's source and turns must be -/
noncomputable def CompSrcs (G : Gd) (n : Nat) (hd : Bool) (A : Around) (env : Env) (m : AMap) (names : List (Str × NameKind)) (B : Addr → Option Obj) (rest : List (Env × AMap)) (elt : Expr) (ifs : List Expr) (scope : Scope) (y : Str) (fv : List Str) (k : V → AHeap → Prop) (s : Shared) (it : Value) (s2 : Shared) : Prop :=
  ∃ (I : Addr) (oI : Obj) (h2 : Heap) (tk2 : Nat) (H2 : AHeap) (len : Nat) (val : Nat → V) (S : Nat → Obj → Prop) (side : AHeap → Prop) (J : Nat → List V → AHeap → Prop), it = .ref I ∧ s2 = { s with heap := h2, toks := tk2 } ∧ Rep G (setB B I oI) ((env, m) :: rest) H2 h2 ∧ B I = none ∧ Iter G A I len val S side ∧ S 0 oI ∧ J 0 [] H2 ∧ len ≤ 1000 ∧
    (∀ cenv, EnvK (relN names scope.names) cenv → ∀ i ys H', i < len → J i ys H' → ys.length ≤ i ∧ side H' ∧ Ok G n hd cenv ((m.only fv).set y (val i)) (forIn ifs true fun c r => if r = true then do let ok ← isTrue c cenv (eval c cenv); pure (ForInStep.yield ok) else pure (ForInStep.yield r)) H'
      (fun b H2 => (b = true → Ok G n hd cenv ((m.only fv).set y (val i)) (eval elt cenv) H2 (fun z H3 => J (i + 1) (ys ++ [abs z]) H3) fun _ _ => False) ∧ (b = false → J (i + 1) ys H2)) fun _ _ => False) ∧
    ∀ ys H', J len ys H' → side H' ∧ ∀ c, H' c = none → k (.ref c) (H'.upd c (.list ys))

theorem comp_run {elt iter : Expr} {y : Str} {px pos : Pos} {ifs : List Expr} {scope : Scope} {fv : List Str} {A : Around} {fl : List Env} {s : Shared} {E : Value → Shared → Prop} {use : Option (Value → Sem Unit)} {Q : Value → Shared → Prop} {k : V → AHeap → Prop} {pos' : Pos}
    (X : EnvK names env) (hc : compOk names scope y fv = true) (hfold : ∀ v, foldedSetIterable iter env v = pure v) (ha : AOk A hd n fl) (hf : FlOk fl ((env, m) :: rest)) (R : Rep G B ((env, m) :: rest) H s.heap)
    (hfirst : wpAny (model G.prog G.w) A (eval iter env) (fun v s1 => wpAny (model G.prog G.w) A (pyIter v) (CompSrcs G n hd A env m names B rest elt ifs scope y fv k s) E s1) E s) (hfin : UseOk G A E B env m rest use Q s k) :
    wpAny (model G.prog G.w) A (comprehension (.ListComp elt [⟨.Name y px, iter, ifs, 0⟩] scope pos) scope env pos' (newList []) false (eval iter env) use) Q E s := by
  have K := compOk_of hc
  have hfr : ∀ z, (z, NameKind.free) ∈ scope.names → ∃ c, env.cells.lookup z = some c := fun z hz => X.cells z (K.frees z hz)
  refine wpAny_comprehension_free rfl hfold (closureFor_eq hfr) K.kind K.locals ?_
  refine wpAny_mono hfirst (fun v s1 h1 => wpAny_mono h1 (fun it s2 h2 => ?_) fun _ _ e => e) fun _ _ e => e
  obtain ⟨I, oI, h2, tk2, H2, len, val, S, side, J, rfl, rfl, R2, hBI, It, hS, hJ, hlen, step, hend⟩ := h2
  refine wpAny_newList ?_
  refine newEnv_ok fun h4 cs NC hns => ?_
  dsimp only at NC hns ⊢
  have R3 : Rep G (setB (setB B I oI) h2.objs.size (lobj [] 0)) ((env, m) :: rest) H2 (h2.push (lobj [] 0)) := R2.pushB (lobj [] 0) rfl
  have hBD : B h2.objs.size = none := (setB_none (R2.freshB (Nat.le_refl _))).2
  have hne : I ≠ h2.objs.size := fun q => by have := Heap.lt_size (R2.keep I oI setB_at); rw [q] at this; exact Nat.lt_irrefl _ this
  rw [setB_comm hne] at R3
  generalize hC : (h2.push { cls := .type "list", data := .seq ([] : List Value).toArray }).objs.size = C at NC hns ⊢
  have hkeep : ∀ b o, (h2.push (lobj [] 0)).get? b = some o → h4.get? b = some o := fun b o e => NC.keep b o (Heap.get?_push_of_some _ e)
  have hCs : (h2.push (lobj [] 0)).objs.size ≤ C := by rw [← hC]; exact Nat.le_refl _
  have hsz : ((h2.push (lobj [] 0)).push { cls := .type "dict", data := .dict #[] }).objs.size = C + 1 := by rw [push_size, ← hC]; rfl
  have hsz' : ∀ {c : Nat}, ((h2.push (lobj [] 0)).push { cls := .type "dict", data := .dict #[] }).objs.size ≤ c → C < c := fun q => by rw [hsz] at q; exact q
  have hcl : ∀ z, (z, NameKind.free) ∈ scope.names → (z, NameKind.cell) ∉ scope.names := fun z hz q => by
    have e1 := lookup_nodup K.nodup hz
    have e2 := lookup_nodup K.nodup q
    rw [e1] at e2; cases e2
  have hlook : ∀ z c, (z, NameKind.free) ∈ scope.names → env.cells.lookup z = some c → cs.lookup z = some c := fun z c hz hc => (NC.old z (hcl z hz)).trans (closOf_lookup hz hc)
  have F := R.head
  have F3 := R3.head
  have Xc : EnvK (relN names scope.names) (compEnvC scope cs C env) := by
    refine ⟨K.kind, relabel_names X F.kind, fun z hz => ?_⟩
    rw [relN_lookup] at hz
    cases e : scope.names.lookup z with
    | none => rw [e] at hz; simp at hz
    | some kk =>
      have hmem := mem_of_lookup e
      cases kk with
      | free => obtain ⟨c, hc⟩ := hfr z hmem; exact ⟨c, hlook z c hmem hc⟩
      | cell => obtain ⟨c, hc, _⟩ := NC.own z hmem; exact ⟨c, hc⟩
      | _ => rw [e] at hz; simp at hz
  have FC : FrameAt (compEnvC scope cs C env) (m.only fv) h4 := by
    refine ⟨K.kind, F.glob, F.bult, ⟨_, hns, fun z v e => ?_⟩, fun z c e => ?_, NC.apart (fun p hp => ?_) (closOf_apart F.apart K.nodup hfr (fun p hp => by cases hp) .nil)⟩
    · unfold AMap.only at e
      split at e
      · rename_i hz
        have hlk := K.fvs z hz
        have hmem := mem_of_lookup hlk
        obtain ⟨ml, _, z2⟩ := F3.ns
        rcases z2 z v e with ⟨y1, _⟩ | ⟨y1, c, v', y2, y3, y4⟩
        · exfalso
          rw [X.kind] at y1
          rcases K.frees z hmem with q | q <;> (rw [y1] at q; cases q)
        · refine .inr ⟨?_, c, v', hlook z c hmem y2, y3.keeps hkeep, y4⟩
          rw [Xc.kind, relN_lookup, hlk]
          by_cases q : (names.lookup z == some NameKind.cell) = true
          · left; simp [q]
          · right; simp [q]
      · cases e
    · rcases NC.mem z c (mem_of_lookup e) with q | ⟨_, _, q⟩
      · rcases closOf_mem q with q | ⟨q1, q2⟩
        · cases q
        · obtain ⟨c', hc'⟩ := hfr z q1
          rw [hc'] at q2
          obtain ⟨v0, hv⟩ := F3.cells z c' hc'
          exact ⟨v0, by rw [q2]; exact hv.keeps hkeep⟩
      · exact ⟨none, q⟩
    · rcases closOf_mem (y := p.1) (c := p.2) hp with q | ⟨q1, q2⟩
      · cases q
      · obtain ⟨c', hc'⟩ := hfr p.1 q1
        rw [hc'] at q2
        obtain ⟨v0, hv⟩ := F3.cells p.1 c' hc'
        rw [q2]
        exact Nat.lt_of_lt_of_eq (Nat.lt_succ_of_lt (Nat.lt_of_lt_of_le hv.lt hCs)) hsz.symm
  have R4 := R3.enter (env := compEnvC scope cs C env) hkeep hCs FC fun z c e => by
    rcases NC.mem z c (mem_of_lookup e) with q | ⟨_, q, _⟩
    · rcases closOf_mem q with q | ⟨q1, q2⟩
      · cases q
      · obtain ⟨c', hc'⟩ := hfr z q1
        rw [hc'] at q2
        rw [q2]; exact (R3.free _ (.head _)).2 z c' hc'
    · exact R3.freshB (Nat.le_of_lt (Nat.lt_of_le_of_lt hCs (hsz' q)))
  have hfl : FlOk fl ((compEnvC scope cs C env, m.only fv) :: (env, m) :: rest) := ⟨fun e he => by obtain ⟨m', hm'⟩ := hf.mem e he; exact ⟨m', .tail _ hm'⟩, hf.own⟩
  have hst : storable (relN names scope.names) y = true := by
    unfold storable
    rw [relN_lookup]
    rcases K.var with e | e <;> (rw [e]; rfl)
  have hab : ∀ c, (relN names scope.names).lookup y = some .cell → cs.lookup y = some c → C < c := fun c hz e => by
    rcases NC.mem y c (mem_of_lookup e) with q | ⟨_, q, _⟩
    · rcases closOf_mem q with q | ⟨q1, _⟩
      · cases q
      · have e1 := lookup_nodup K.nodup q1
        rcases K.var with e2 | e2 <;> (rw [e2] at e1; cases e1)
    · exact hsz' q
  have loop : ∀ tk, codeAny (model G.prog G.w) A (.compLoop (.ListComp elt [⟨.Name y px, iter, ifs, 0⟩] scope pos) 0 (.ref I) (.ref h2.objs.size) (compEnvC scope cs C env)) (compPost (model G.prog G.w) A E use Q (.ref h2.objs.size) C) { s with heap := h4, toks := tk } := by
    intro tk
    refine compLoop_ok (s := { s with heap := h4, toks := tk }) (m0 := m.only fv) Xc hst hab It J hlen ha hfl (by unfold AMap.only; rw [if_neg K.notin]) hBI hBD hne hS R.base R4 hJ (fun i ys H' hi hj => step _ Xc i ys H' hi hj) (fun ys H' hj => (hend ys H' hj).1) fun h5 tk5 ys H5 ws j hw R5 hj hl => ?_
    have hb' : ∀ b o, G.base.get? b = some o → B b = some o := R.base
    exact hfin h2.objs.size _ _ h5 tk5 H5 ws j ys hBD R5 hw hl ((hend ys H5 hj).2 _ (R5.freshI hBD hb'))
  exact codeAny_compStart_list (loop _) (It.self 0 oI _ _ _ _ _ _ hS R4 (loop _))

theorem comp_ok {elt iter : Expr} {y : Str} {px pos : Pos} {ifs : List Expr} {scope : Scope} {fv : List Str} {A : Around} {fl : List Env} {s : Shared} {E : Value → Shared → Prop} {k : V → AHeap → Prop}
    (X : EnvK names env) (hc : compOk names scope y fv = true) (hfold : ∀ v, foldedSetIterable iter env v = pure v) (ha : AOk A hd n fl) (hf : FlOk fl ((env, m) :: rest)) (R : Rep G B ((env, m) :: rest) H s.heap)
    (hfirst : wpAny (model G.prog G.w) A (eval iter env) (fun v s1 => wpAny (model G.prog G.w) A (pyIter v) (CompSrcs G n hd A env m names B rest elt ifs scope y fv k s) E s1) E s) :
    wpAny (model G.prog G.w) A (eval (.ListComp elt [⟨.Name y px, iter, ifs, 0⟩] scope pos) env) (NPost G B ((env, m) :: rest) s fun v => k (abs v)) E s := by
  rw [eval_ListComp]
  refine comp_run X hc hfold ha hf R hfirst ?_
  intro D cenv m0 h' tk H' ws j ys hD R' hw hl hk
  obtain ⟨ml, hn, _⟩ := R'.head.ns
  obtain ⟨o1, o2, o3, o4⟩ := R'.offC
  refine ⟨ml, hn, fun h6 hs6 => ?_⟩
  have hb := R.base
  have R6 : Rep G (setB B D (lobj ws j)) ((env, m) :: rest) H' h6 := R'.tail.turn (fun c o hc' e => (hs6.2 c hc').trans e) o1 o2 o3 fun a o e => .inl ⟨e, (o4 a o e).1, (o4 a o e).2⟩
  have hDat : h6.get? D = some (lobj ws j) := R6.keep _ _ setB_at
  exact ⟨h6, tk, _, rfl, (R6.popB hD hb).newList' hD hDat hw hl, hk⟩

theorem comp_assign_ok {elt iter : Expr} {y z : Str} {px pz pos spos : Pos} {ifs : List Expr} {scope : Scope} {fv : List Str} {A : Around} {fl : List Env} {s : Shared} {E : Value → Shared → Prop} {kn : AMap → AHeap → Prop} {kr : V → AHeap → Prop}
    (X : EnvS names env) (hc : compOk names scope y fv = true) (hfold : ∀ v, foldedSetIterable iter env v = pure v) (ha : AOk A hd n fl) (hf : FlOk fl ((env, m) :: rest)) (R : Rep G B ((env, m) :: rest) H s.heap) (hz : storable names z = true)
    (hsw : swapsWith (.ListComp elt [⟨.Name y px, iter, ifs, 0⟩] scope pos) (some (.Name z pz)) spos.line env = pure true)
    (hfirst : wpAny (model G.prog G.w) A (eval iter env) (fun v s1 => wpAny (model G.prog G.w) A (pyIter v) (CompSrcs G n hd A env m names B rest elt ifs scope y fv (fun v H1 => kn (m.set z v) H1) s) E s1) E s) :
    wpAny (model G.prog G.w) A (exec (.Assign [.Name z pz] (.ListComp elt [⟨.Name y px, iter, ifs, 0⟩] scope pos) spos) env) (FPost G B env rest s kn kr) E s := by
  rw [exec_Assign_Name_used _ _ _ _ hsw]
  refine wpAny_bind (wpAny_standAt (wpAny_bind ?_))
  show wpAny _ A (do let _ ← comprehension (.ListComp elt [⟨.Name y px, iter, ifs, 0⟩] scope pos) scope env _ (newList []) false (eval iter env) (some (assign (.Name z pz) env))) _ _ s
  refine wpAny_bind (wpAny_mono (comp_run (use := some (assign (.Name z pz) env)) (Q := fun _ s' => FPost G B env rest s kn kr .next s') X.toEnvK hc hfold ha hf R hfirst ?_) (fun _ s' hq => wpAny_pure (wpAny_pure hq)) fun _ _ e => e)
  intro D cenv m0 h' tk H' ws j ys hD R' hw hl hk
  obtain ⟨ml, hn, _⟩ := R'.head.ns
  obtain ⟨o1, o2, o3, o4⟩ := R'.offC
  have hb := R.base
  have off : ∀ {h1 h2 : Heap} {m1 : AMap}, Rep G (setB B D (lobj ws j)) ((env, m1) :: rest) H' h1 → Heap.SameBut cenv.locals h1 h2 → Rep G (setB B D (lobj ws j)) ((env, m1) :: rest) H' h2 := by
    intro h1 h2 m1 r hs
    refine r.turn (fun c o hc' e => (hs.2 c hc').trans e) o1 (fun p hp => ?_) (fun p hp => ?_) fun a o e => .inl ⟨e, (o4 a o e).1, (o4 a o e).2⟩
    · rcases List.mem_cons.mp hp with rfl | hp
      · exact o2 (env, m) (.head _)
      · exact o2 p (.tail _ hp)
    · rcases List.mem_cons.mp hp with rfl | hp
      · exact o3 (env, m) (.head _)
      · exact o3 p (.tail _ hp)
  show wpAny _ A (assign (.Name z pz) env (.ref D)) _ _ _
  have hCne : cenv.locals ≠ env.locals := Ne.symm (o2 (env, m) (.head _))
  refine wpAny_assign_Name ?_
  have hst := hz
  unfold storable at hst
  rw [Bool.or_eq_true, beq_iff_eq, beq_iff_eq] at hst
  obtain ⟨mle, z1, z2⟩ := R'.tail.head.ns
  have fin : ∀ {h1 : Heap} {tk1 : Nat}, Rep G (setB B D (lobj ws j)) ((env, m.set z (.ref D)) :: rest) H' h1 → h1.Ns cenv.locals ml → ∃ mm, h1.Ns cenv.locals mm ∧ ∀ h2, Heap.SameBut cenv.locals h1 h2 → FPost G B env rest s kn kr .next { s with heap := h2, toks := tk1 } := by
    intro h1 tk1 r hn1
    refine ⟨ml, hn1, fun h2 hs2 => ?_⟩
    have R6 := off r hs2
    have hDat : h2.get? D = some (lobj ws j) := R6.keep _ _ setB_at
    exact ⟨h2, tk1, _, _, rfl, (R6.popB hD hb).newList' hD hDat hw hl, hk⟩
  rcases hst with hl' | hl'
  · refine wpAny_storeName_local (s := { s with heap := h', toks := tk }) (by rw [X.kind]; exact hl') z1 (fun h1 hn1 hs1 => ?_) (by rw [R.head.kind]; rfl)
    exact fin (R'.tail.setLocal z2 (by rw [X.kind]; exact hl') hn1 hs1) (hn.sameBut hs1 hCne)
  · obtain ⟨c, hc'⟩ := X.cells z (.inl hl')
    obtain ⟨v0, hv0⟩ := R'.tail.head.cells z c hc'
    refine wpAny_storeName_cell (s := { s with heap := h', toks := tk }) R.head.kind (by rw [X.kind]; exact hl') hc' hv0 fun h1 hn1 hs1 => ?_
    exact fin (tk1 := tk) (R'.tail.setCell (by rw [X.kind]; exact hl') hc' (X.above z c hc') hn1 hs1) (hn.sameBut hs1 (Ne.symm (o3 (env, m) (.head _) z c hc')))
end
end Mine
end
section
namespace Mine
open PySem PySem.W PySem.Calls PyProof.Rows

theorem frnewsX {h : Heap} {L : Addr} {ml : Str → Option Value} (hn : h.Ns L ml) {dx : Addr} {od : Obj} (hdx : h.get? dx = some od) (hne : dx ≠ L) : ∃ h₀ post, Fr h₀ L h ml ∧ News h₀ L h ([] ++ (dx, od) :: post) ∧ (∀ p ∈ post, p.1 ≠ dx) ∧ ∀ b o, b ≠ L → b ≠ dx → h.get? b = some o → h₀.get? b = some o ∨ (b, o) ∈ post := by
  obtain ⟨h₀, news, F, N, cover⟩ := frnews hn
  have keep : ∀ b o, (h₀.update dx fun o => { o with data := .freed }).get? b = some o → b ≠ dx ∧ h₀.get? b = some o := fun b o e => by
    by_cases q : b = dx
    · rw [q, TI.get?_update_freed] at e; cases e
    · rw [Heap.get?_update_other _ _ (Ne.symm q)] at e; exact ⟨q, e⟩
  refine ⟨h₀.update dx fun o => { o with data := .freed }, news.filter fun p => p.1 != dx, ⟨F.ns, fun b o e => F.keep b o (keep b o e).2, ?_⟩, fun p hp => ?_, fun p hp => ?_, fun b o hb hb' e => ?_⟩
  · rw [Heap.size_after_update]; exact F.above
  · rcases List.mem_cons.mp hp with rfl | hp
    · exact ⟨hdx, hne, TI.get?_update_freed _ _⟩
    · obtain ⟨hp, hq⟩ := List.mem_filter.mp hp
      obtain ⟨n1, n2, n3⟩ := N p hp
      refine ⟨n1, n2, ?_⟩
      rw [Heap.get?_update_other _ _ (Ne.symm (by simpa using hq))]; exact n3
  · have := (List.mem_filter.mp hp).2; simpa using this
  · rcases cover b o hb e with z | z
    · left; rw [Heap.get?_update_other _ _ (Ne.symm hb')]; exact z
    · right; exact List.mem_filter.mpr ⟨z, by simpa using hb'⟩

section
variable {G : Gd} {n : Nat} {hd : Bool} {env : Env} {m : AMap} {H : AHeap} {kn : AMap → AHeap → Prop} {kr : V → AHeap → Prop} {x : XS} {xe : XE} {names : List (Str × NameKind)}

theorem setAttr_ok {a l : Addr} {k : Unit → AHeap → Prop} (hH : H a = some (.board none)) (h : k () (H.upd a (.board (some l)))) : Ok G n hd env m (setAttr (.ref a) "bases" (.ref l)) H k xe := by
  intro A fl B rest s ha hf R
  obtain ⟨C, hC, ⟨f1, f2, f3⟩, f4, f5, f6⟩ := G.boardFacts
  obtain ⟨C', dx, es, nn, sl, x0, x1, x2, x3, x4, x5, x6, x7⟩ := R.obj _ _ hH
  rw [hC] at x1; cases x1
  obtain rfl : es = [] := x7
  have I : InstAt s.heap a ⟨.ref C, some dx, .plain, sl⟩ C (some (dictOf [] nn)) := ⟨x2, rfl, rfl, x3⟩
  obtain ⟨ml, z1, z2⟩ := R.head.ns
  have hneL : dx ≠ env.locals := fun q => x6 (by rw [q]; exact .head _)
  obtain ⟨h₀, post, F, N, hp, cover⟩ := frnewsX z1 x3 hneL
  refine set_plain R.inK I f4 ?_
  refine osa_dict (s := { s with toks := s.toks + 1 }) (od' := dictOf [⟨PyData.keyHash G.w.params "bases", .str "bases" (s.toks + 1), .ref l⟩] (nn + 1)) (es := [⟨PyData.keyHash G.w.params "bases", .str "bases" (s.toks + 1), .ref l⟩]) (n := nn + 1) F N R.inK I rfl f5 f6 f2 (by rw [lookIn_dict]; rfl) (by intro p hp; cases hp) hp ?_ rfl (by simp) fun h' F' N' => ?_
  · rfl
  · have hk : ∀ c o, c ≠ dx → c ≠ env.locals → s.heap.get? c = some o → h'.get? c = some o := fun c o h1 h2 e => by
      rcases cover c o h2 h1 e with z | z
      · exact F'.keep c o z
      · exact (N' (c, o) (.tail _ z)).1
    have hdx' := (N' _ (.head _)).1
    obtain ⟨oL, esL, epL, eL, dL⟩ := R.head.obj
    obtain ⟨oL', esL', epL', eL', dL', _⟩ := F'.ns
    -- the heap with the old frame, then the frame's turn
    have R1 : Rep G B ((env, m) :: rest) (H.upd a (.board (some l))) (h'.update env.locals fun _ => oL) := by
      refine R.setBoard (l := l) (h' := h'.update env.locals fun _ => oL) (es' := [⟨PyData.keyHash G.w.params "bases", .str "bases" (s.toks + 1), .ref l⟩]) (n' := nn + 1) hH x2 (fun c o hc e => ?_) ?_ rfl
      · by_cases q : c = env.locals
        · subst q
          rw [eL] at e; cases e
          rw [Heap.get?_update_self _ eL' (Heap.get?_some_iff.mp eL).2]
        · rw [Heap.get?_update_other _ _ (Ne.symm q)]; exact hk c o hc q e
      · rw [Heap.get?_update_other _ _ (Ne.symm hneL)]; exact hdx'
    have R2 : Rep G B ((env, m) :: rest) (H.upd a (.board (some l))) h' := by
      refine R1.reLocal (ml' := ml) (fun y w e => ?_) F'.ns fun c o hc e => ?_
      · rcases z2 y w e with z | ⟨y1, c, v', y2, ⟨o, y3, y3'⟩, y4⟩
        · exact .inl z
        · refine .inr ⟨y1, c, v', y2, ⟨o, ?_, y3'⟩, y4⟩
          have h1 : c ≠ env.locals := fun q => by rw [q, eL] at y3; cases y3; rw [dL] at y3'; cases y3'
          have h2 : c ≠ dx := fun q => by rw [q, x3] at y3; cases y3; cases y3'
          rw [Heap.get?_update_other _ _ (Ne.symm h1)]
          exact hk c o h2 h1 y3
      · rw [Heap.get?_update_other _ _ (Ne.symm hc)] at e; exact e
    exact ⟨h', _, _, rfl, R2, h⟩

theorem setAttr_stmt {o value : Expr} {f : Str} {p pos : Pos} (hs : swapsWith value (some (.Attribute o f p)) pos.line env = pure false)
    (h : Ok G n hd env m (eval value env) H (fun v H1 => Ok G n hd env m (eval o env) H1 (fun u H2 => ∃ a l, abs u = .ref a ∧ abs v = .ref l ∧ f = "bases" ∧ H2 a = some (.board none) ∧ kn m (H2.upd a (.board (some l)))) (fun c => x c m)) (fun c => x c m)) :
    SOk G n hd env (exec (.Assign [.Attribute o f p] value pos) env) m H kn kr x := by
  intro A outer B rest s ha hf R
  refine plainObj_wpAny_Assign_Attribute (h.expr ha hf R fun v h1 tk1 H1 R1 q1 => ?_) hs
  refine wpAny_mono (Q := fun u s2 => wpAny (model G.prog G.w) A (setAttr u f v) (fun _ => FPost G B env rest s kn kr .next) (SX G B (env :: outer) env rest s x) s2) (q1.expr ha hf R1 fun u h2 tk2 H2 R2 q2 => ?_) (fun _ _ z => z) fun _ _ z => z.trans
  obtain ⟨a, l, e1, e2, rfl, e4, q⟩ := q2
  obtain rfl := abs_ref e1
  obtain rfl := abs_ref e2
  refine wpAny_mono (setAttr_ok (xe := fun _ _ => False) (k := fun _ H' => kn m H') e4 q A (env :: outer) B rest _ ha hf R2) ?_ ?_
  · rintro _ s4 ⟨h4, tk4, H4, rfl, R4, q4⟩; exact ⟨h4, tk4, H4, m, rfl, R4, q4⟩
  · rintro _ s4 ⟨h4, tk4, H4, a, c, _, _, _, _, q4⟩; exact q4.elim

theorem Gd.exc {c : Str} {C : Addr} (hc : c ∈ excNames) (hC : clsAddr G.K c = some C) : excIn G.K C vbm "ValueError.__new__" = true ∧ kitCls G.K (.ref C) (.type "ValueError") = some true ∧ (clsIn G.K C).isSome = true ∧
    ∀ d D, d ∈ excNames → clsAddr G.K d = some D → exmOne G.K (.ref C) (.ref D) = some (subcls c d) ∧ kitCls G.K (.ref C) (.ref D) = some (subcls c d) := by
  have h := G.excs
  unfold excsOk at h
  have h' := List.all_eq_true.mp h c hc
  rw [hC] at h'
  unfold excCls at h'
  simp only [Bool.and_eq_true, beq_iff_eq] at h'
  obtain ⟨⟨⟨h1, h2⟩, h3⟩, h7⟩ := h'
  refine ⟨h1, h2, h3, fun d D hd hD => ?_⟩
  have := List.all_eq_true.mp h7 d hd
  rw [hD] at this
  simp only [Bool.and_eq_true, beq_iff_eq] at this
  exact this
theorem excOk_of {c : Str} (h : excOk G.K c = true) : c ∈ excNames ∧ ∃ C, clsAddr G.K c = some C ∧ nsIn G.K mainGlobals c = some (some (.ref C)) := by
  unfold excOk at h
  rw [Bool.and_eq_true] at h
  refine ⟨List.contains_iff_mem.mp h.1, ?_⟩
  obtain ⟨C, hC⟩ := Option.isSome_iff_exists.mp h.2
  refine ⟨C, hC, ?_⟩
  unfold clsAddr at hC
  split at hC
  · rename_i e; cases hC; exact e
  · cases hC

theorem raise_ok {c : Str} {np cpos pos : Pos} {args : List Expr} (X : EnvK names env) (hk : names.lookup c = some .globalImplicit) (hx : excOk G.K c = true) (h : Args1 G n false env m args H (fun vs H1 => vs.length ≤ 1000 ∧ x c m H1) (fun c => x c m)) :
    SOk G n false env (exec (.Raise (some (.Call (.Name c np) args [] cpos)) none pos) env) m H kn kr x := by
  intro A outer B rest s ha hf R
  obtain ⟨hc, C, hC, hns⟩ := excOk_of hx
  obtain ⟨e1, _⟩ := G.exc hc hC
  obtain ⟨tl, N, nm, q, bs, hdct, sn, sub, ab, col, dd, k0, k1, k2, k3, k5, mN, hCo, hN, hni, T⟩ := (G.own c C hns e1).obj
  refine wpAny_Raise_call_subT (C := C) (nm := nm) (q := q) (N := N) (bs := bs) (bm := tl) (hdct := hdct) (sn := sn) (sub := sub) (ab := ab) (col := col) (dd := dd) (k0 := k0) (k1 := k1) (k2 := k2) (k3 := k3) (k5 := k5)
    PySem.F.excBase_ValueError (mN := mN) (T.hasType PySem.F.excBase_ValueError.hasBase) (ha.handled rfl) (plain_any h.star) hni ?_
  have hcd : (c == ("__debug__" : Str)) = false := by rw [beq_eq_false_iff_ne]; rintro rfl; revert hc; decide
  refine (ok_glob (G := G) (n := n) (hd := false) (x := fun c => x c m) (k := fun v H' => v = .ref C ∧ H' = H) (by rw [X.kind]; exact hk) hns hcd ⟨rfl, rfl⟩).expr ha hf R fun v h1 tk1 H1 R1 z => ?_
  obtain ⟨rfl, rfl⟩ := z
  refine ⟨rfl, ?_⟩
  refine wpAny_mono (Q := fun a s2 => _) (h.eval.expr (s := { s with heap := h1, toks := tk1 }) ha hf R1 fun a h2 tk2 H2 R2 z => ?_) (fun _ _ z => z) fun _ _ z => z.trans
  obtain ⟨hkw, hl, hx⟩ := z
  rw [List.length_map] at hl
  refine ⟨hkw, by rw [sizeLine_eq]; omega, R2.stays _ _ hCo, hN.keeps R2.stays, T.keeps R2.stays, fun h' e M => ?_⟩
  obtain ⟨t, t1, t2, t3⟩ := M.there
  refine ⟨h', tk2, H2, m, e, c, rfl, rfl, R2.grow M.keeps, ⟨hc, C, _, _, _, hC, t1, rfl, rfl, rfl, rfl, R2.freshB' M.new, fun c' => ?_, .inl ⟨rfl, trivial⟩⟩, hx⟩
  rw [R2.fresh' M.new]; intro z; cases z

/-- the clauses of a try, for a noted exception -/
noncomputable def HOk (G : Gd) (n : Nat) (env : Env) (hs : List ExceptHandler) (c : Str) (m : AMap) (H : AHeap) (kn : AMap → AHeap → Prop) (kr : V → AHeap → Prop) (x : XS) : Prop :=
  ∀ (A : Around) (outer : List Env) (B : Addr → Option Obj) (rest : List (Env × AMap)) (s : Shared) (a : Addr), AOk A false n (env :: outer) → FlOk (env :: outer) ((env, m) :: rest) → Rep G B ((env, m) :: rest) H s.heap → FlyT G B H a c (onP .none) s.heap →
    wpAny (model G.prog G.w) A (handleBy (.ref a) env hs) (FPost G B env rest s kn kr) (SX G B (env :: outer) env rest s x) s
theorem try_ok {body : List Stmt} {h0 : ExceptHandler} {hs : List ExceptHandler} {pos : Pos} (h : SOk G n false env (execs body env) m H kn kr (fun c m' H' => HOk G n env (h0 :: hs) c m' H' kn kr x)) : SOk G n false env (exec (.Try body (h0 :: hs) [] [] pos) env) m H kn kr x := by
  intro A outer B rest s ha hf R
  refine wpAny_Try_except (wpAny_mono (h A outer B rest s ha hf R) ?_ ?_)
  · rintro f s1 ⟨h1, tk1, H1, m1, rfl, R1, q⟩
    cases f with
    | next => exact wpAny_execs_nil ⟨h1, tk1, H1, m1, rfl, R1, q⟩
    | ret v => exact ⟨h1, tk1, H1, m1, rfl, R1, q⟩
    | brk => exact q.elim
    | cont => exact q.elim
  · rintro e s1 ⟨h1, tk1, H1, m1, a, c, rfl, rfl, R1, Y1, q⟩
    refine note_ok (s := { s with heap := h1, toks := tk1 }) ha.frames hf.remap R1 Y1 fun h2 R2 Y2 => ?_
    refine flight_ok (s := { s with heap := h2, toks := tk1 }) (o := none) R2 Y2 (fun z => z) fun h3 R3 Y3 => ?_
    exact wpAny_mono (q A outer B rest { s with heap := h3, toks := tk1 } a ha hf.remap R3 Y3) (fun _ _ z => z.trans) fun _ _ z => z.trans
theorem HOk.nil {c : Str} (h : x c m H) : HOk G n env [] c m H kn kr x := by
  intro A outer B rest s a ha hf R Y
  refine wpAny_handleBy_nil ?_
  unfold PySem.passOn
  have Y' := Y
  obtain ⟨x0, C, oe, vs, a0, x1, x2, x3, x4, x5, x6, x7, x8, ⟨y1, y2⟩ | ⟨T, oT, ts, f, y1, y2, y3, y4, y5, y6, y7, y8⟩⟩ := Y
  · exact y2.elim
  refine wpAny_bind (wpAny_field x2 x4 y1 ?_)
  rw [if_neg (by simp), hf.head]
  refine wpAny_bind (flight_ok (o := some env.locals) R Y' (fun z => z) fun h' R' Y2 => ?_)
  exact wpAny_throw ⟨h', s.toks, H, m, a, c, rfl, rfl, R', Y2.mono fun _ z => onP_env z, h⟩

theorem AOk.mark {A : Around} {fl : List Env} (e : Value) (h : AOk A false n fl) : AOk (A.mark (some e)) true n fl := by
  refine ⟨h.frames, ?_, h.depth, h.units⟩
  intro z
  cases z
theorem exc_inst {h : Heap} {a C : Addr} {oe : Obj} {vs : Array Value} (e : h.get? a = some oe) (hc : oe.cls = .ref C) (hd : oe.data = .fields vs) (hn : oe.dict = none) : InstAt h a oe C none := by
  refine ⟨e, hc, ?_, by rw [hn]; trivial⟩
  obtain ⟨o1, o2, o3, o4⟩ := oe
  dsimp only at hd
  subst hd
  rfl
theorem FlyT.inst {B : Addr → Option Obj} {a : Addr} {c : Str} {P : Option Value → Prop} {h : Heap} {C : Addr} (Y : FlyT G B H a c P h) (hC : clsAddr G.K c = some C) : ∃ oe, InstAt h a oe C none := by
  obtain ⟨x0, C', oe, vs, a0, x1, x2, x3, x4, x5, _⟩ := Y
  rw [hC] at x1; cases x1
  exact ⟨oe, exc_inst x2 x3 x4 x5⟩
theorem FlyT.none {B : Addr → Option Obj} {a : Addr} {c : Str} {P : Option Value → Prop} {h : Heap} {es : List (Env × AMap)} (Y : FlyT G B H a c P h) (R : Rep G B es H h) : H a = none := by
  obtain ⟨x0, C, oe, vs, a0, x1, x2, x3, x4, x5, x6, x7, x8, _⟩ := Y
  cases e : H a with
  | none => rfl
  | some o =>
    exfalso
    have A := R.obj a o e
    cases o with
    | list vs => obtain ⟨y1, y2, ws, n, y3, y4⟩ := A; rw [x2] at y3; cases y3; cases x4
    | tup vs => obtain ⟨y1, y2, ws, n, y3, y4⟩ := A; rw [x2] at y3; cases y3; cases x4
    | script ns => obtain ⟨y1, y2, vs, ⟨ol, y3, y4, n, y6⟩, y5⟩ := A; rw [x2] at y3; cases y3; rw [x4] at y6; cases y6
    | board f => obtain ⟨C, dx, es, n, sl, y0, y1, y2, _⟩ := A; rw [x2] at y2; cases y2; cases x4
    | exc c => exact x8 c e

theorem suite_err {A : Around} {outer : List Env} {B : Addr → Option Obj} {rest : List (Env × AMap)} {s s' : Shared} {e : Value} {F : Value → Shared → Prop} (p : SX G B (env :: outer) env rest s (fun _ _ _ => False) e s') : F e s' := by
  obtain ⟨_, _, _, _, _, _, _, _, _, _, q⟩ := p; exact q.elim

theorem HOk.cons {c d : Str} {np pos : Pos} {nm : Option Str} {b0 : Stmt} {b : List Stmt} {hs : List ExceptHandler} (X : EnvS names env) (hk : names.lookup d = some .globalImplicit) (hd : excOk G.K d = true) (hn : ∀ y, nm = some y → names.lookup y = some .local)
    (h1 : subcls c d = true → match nm with
      | Option.none => SOk G n true env (execs (b0 :: b) env) m H kn kr (fun _ _ _ => False)
      | some y => ∀ a, H a = Option.none → SOk G n true env (execs (b0 :: b) env) (m.set y (.ref a)) (H.upd a (.exc c)) (fun m' H' => kn (m'.unset y) H') kr (fun _ _ _ => False))
    (h2 : subcls c d = false → HOk G n env hs c m H kn kr x) : HOk G n env (.ExceptHandler (some (.Name d np)) nm (b0 :: b) pos :: hs) c m H kn kr x := by
  intro A outer B rest s a ha hf R Y
  obtain ⟨hdm, D, hD, hnsD⟩ := excOk_of hd
  have hcm := Y.1
  obtain ⟨C, hC⟩ : ∃ C, clsAddr G.K c = some C := by obtain ⟨_, C, _, _, _, x1, _⟩ := Y; exact ⟨C, x1⟩
  obtain ⟨_, _, _, hex⟩ := G.exc hcm hC
  obtain ⟨hm, _⟩ := hex d D hdm hD
  have ha' := ha.mark (.ref a)
  have hdd : (d == ("__debug__" : Str)) = false := by rw [beq_eq_false_iff_ne]; rintro rfl; revert hdm; decide
  refine wpAny_handleBy_cons (codeAny_handlers_test ?_) (by intro z; cases z)
  refine Calls.Name_function_global R.head.kind (by rw [X.kind]; exact hk) (Calls.loadGlobal_global (mg := G.mg) (by rw [R.head.glob]; exact R.gn) (mg_of G.kin G.g hnsD) ?_) hdd
  obtain ⟨oe0, I0⟩ := Y.inst hC
  refine exm_one R.inK I0.type hm _ _ _ s (fun _ _ e => e) ?_
  cases hb : subcls c d with
  | false =>
    exact h2 hb A outer B rest s a ha hf R Y
  | true =>
    have h1 := h1 hb
    cases nm with
    | none =>
      refine codeAny_handlers_suite ?_
      refine flight_ok (o := none) R Y (fun z => z) fun h2 R2 Y2 => ?_
      refine wpAny_mono (h1 (A.mark (some (.ref a))) outer B rest { s with heap := h2 } ha' hf R2) (fun f s3 z => ?_) fun _ _ z => suite_err (A := A) z
      exact FPost.trans (tk := s.toks) z
    | some y =>
      have hyl := hn y rfl
      refine codeAny_handlers_suite_as ?_
      refine flight_ok (o := none) R Y (fun z => z) fun h2 R2 Y2 => ?_
      have hHa := Y2.none R2
      have R2' : Rep G B ((env, m) :: rest) (H.upd a (.exc c)) h2 := by
        refine R2.new (o := .exc c) (fun _ _ e => e) ?_
        obtain ⟨x0, C', oe, vs, a0, x1, x2, x3, x4, x5, x6, x7, x8, x9⟩ := Y2
        exact ⟨x7, C', oe, vs, x1, x2, x3, x4, x5, x0⟩
      refine store_ok (s := { s with heap := h2 }) X.toEnvK (fun _ => X.above y) (by unfold storable; rw [hyl]; rfl) R2' fun h3 tk3 R3 => ?_
      refine wpAny_mono (h1 a hHa (A.mark (some (.ref a))) outer B rest { s with heap := h3, toks := tk3 } ha' hf.remap R3) (fun f s4 z => ?_) fun e' s' z => (suite_err (A := A) (F := fun _ _ => False) z).elim
      obtain ⟨h4, tk4, H4, m4, rfl, R4, q4⟩ := z
      obtain ⟨ml, z1, z2⟩ := R4.head.ns
      refine wpAny_nameGoes_keeps (s := { s with heap := h4, toks := tk4 }) (by rw [X.kind]; exact hyl) z1 (by rw [R4.head.kind]; rfl) fun h5 v5 hn5 hs5 => ?_
      have R5 : Rep G B ((env, m4.unset y) :: rest) H4 h5 := by
        refine R4.reLocal (fun w u e => ?_) hn5 fun c' o hc' e => (hs5.2 c' hc').trans e
        unfold AMap.unset at e
        split at e
        · cases e
        · rename_i q
          rcases z2 w u e with ⟨y1, v', y2, y3⟩ | z
          · exact .inl ⟨y1, v', by rw [if_neg q]; exact y2, y3⟩
          · exact .inr z
      refine ⟨h5, _, H4, m4.unset y, rfl, R5, ?_⟩
      cases f with
      | next => exact q4
      | ret v => exact q4
      | brk => exact q4
      | cont => exact q4

/-- isinstance of an exception: yes -/
theorem isx_ok {a C : Addr} {d : Str} {cv : Value} {k : Bool → AHeap → Prop} (hH : H a = some (.exc d)) (hC : clsAddr G.K d = some C) (hc : kitCls G.K (.ref C) cv = some true) (h : k true H) :
    Ok G n hd env m (call (.builtin "isinstance") [.ref a, cv]) H (fun r H' => ∃ b, r = .bool b ∧ k b H') xe := by
  intro A fl B rest s ha hf R
  obtain ⟨x1, C', oe, vs, x2, x3, x4, x5, x6, x7⟩ := R.obj _ _ hH
  rw [hC] at x2; cases x2
  have LT : Looks (model G.prog G.w) s.heap (typeOf (.ref a)) (.ref C) := (exc_inst x3 x4 x5 x6).type
  obtain ⟨hty, his, hsub⟩ := kit_cls (M := model G.prog G.w) R.inK hc
  have fin : ∀ tk, NPost G B ((env, m) :: rest) s (fun (r : Value) H' => ∃ b, r = .bool b ∧ k b H') (Value.bool true) { s with toks := tk } := fun tk => ⟨s.heap, tk, H, rfl, R, _, rfl, h⟩
  refine call_isinstance_of ?_ (by intro z; cases z)
  unfold Builtin.«isinstance.nested»
  refine wpAny_bind (LT _ _ _ s (fun _ _ e => e) ?_)
  by_cases q : (Value.ref C == cv) = true
  · rw [if_pos q]
    first
      | exact wpAny_bind (wpAny_rule (fin s.toks))
      | exact wpAny_bind (wpAny_rule (wpAny_pure (fin s.toks)))
  · rw [if_neg q]
    have LI : Looks (model G.prog G.w) s.heap (isInstance (.ref a) cv) true := LT.andThen hsub
    refine wpAny_bind (hty _ _ _ s (fun _ _ e => e) ?_)
    rw [if_pos (by decide)]
    k_delta "plainIsInstance"
    refine wpAny_bind (wpAny_bind (his _ _ _ s (fun _ _ e => e) ?_))
    simp only [Bool.not_true, Bool.false_eq_true, if_false]
    refine wpAny_bind (LI _ _ _ s (fun _ _ e => e) ?_)
    first
      | exact wpAny_pure (wpAny_pure (fin s.toks))
      | (simp only [if_true]; first | exact wpAny_pure (wpAny_pure (fin s.toks)) | exact wpAny_pure (fin s.toks) | exact wpAny_bind (wpAny_pure (wpAny_pure (fin s.toks))))

/-- a loop over an iterator at I, two names at a turn -/
theorem forLoopT_ok {y z : Str} {py pz tp : Pos} {kk : Nat} {b : List Stmt} {A : Around} {outer : List Env} {B : Addr → Option Obj} {rest : List (Env × AMap)} {s : Shared} {I : Addr} {oI : Obj} {len : Nat} {val : Nat → V} {S : Nat → Obj → Prop} {side : AHeap → Prop}
    (X : EnvS names env) (hy : storable names y = true) (hz : storable names z = true) (It : Iter G A I len val S side) (J : Nat → AMap → AHeap → Prop) (ha : AOk A false n (env :: outer)) (hf : FlOk (env :: outer) ((env, m) :: rest)) (hI : B I = none) (hS : S 0 oI) (R : Rep G (setB B I oI) ((env, m) :: rest) H s.heap) (h0 : J 0 m H) (hbase : ∀ b o, G.base.get? b = some o → B b = some o)
    (h : ∀ i m' H', i < len → J i m' H' → side H' ∧ ∃ c p q, val i = .ref c ∧ H' c = some (.tup [p, q]) ∧ SOk G n false env (execs b env) ((m'.set y p).set z q) H' (J (i + 1)) kr x) (hend : ∀ m' H', J len m' H' → side H' ∧ kn m' H') (hgo : ∀ i oI (h : Heap), S i oI → h.get? I = some oI → ∃ l j, h.IsListIter I l j) :
    codeAny (model G.prog G.w) A (.forLoop (.Tuple [.Name y py, .Name z pz] kk tp) (.ref I) b [] env) (BackR G A B env outer rest s kn kr x) s := by
  have err : ∀ {oI : Obj} {e : Value} {s' : Shared}, SX G (setB B I oI) (env :: outer) env rest s x e s' → notedBy (model G.prog G.w) A env (fun e s' => BackR G A B env outer rest s kn kr x (.error e) s') e s' := by
    intro oI e s' p
    refine noted_ok ha hf p fun h' tk H' m' a c R' Y' q => ?_
    exact back_ok (s := { s with heap := h', toks := tk }) hf.remap R' Y' (fun z => z) fun h2 R2 Y2 => ⟨h2, tk, H', m', a, c, rfl, rfl, R2.popB hI hbase, (Y2.mono fun _ z => onP_env z).popB, q⟩
  refine codeAny_forLoop_any (R := BackR G A B env outer rest s kn kr x) (fun j s' => ∃ h' tk H' m' i oI, j + i = len ∧ s' = { s with heap := h', toks := tk } ∧ S i oI ∧ Rep G (setB B I oI) ((env, m') :: rest) H' h' ∧ J i m' H') ?_ len ⟨s.heap, s.toks, H, m, 0, oI, rfl, rfl, hS, R, h0⟩
  rintro j s' ⟨h', tk, H', m', i, oI, hj, rfl, hS, R', hJ⟩
  by_cases hi : i < len
  · obtain ⟨hside, c, p, q, hc, e2, hbody⟩ := h i m' H' hi hJ
    refine It.item i oI B _ H' _ _ _ hi hS hside hI hbase R' fun v oI' h2 tk2 hv hS2 R2 => ?_
    rw [hc] at hv
    obtain rfl := abs_ref hv
    obtain ⟨l, jj, hit⟩ := hgo _ _ h2 hS2 (R2.keep _ _ setB_at)
    refine wpAny_letOwnedTupleGo_listiter (s := { s with heap := h2, toks := tk2 }) hit ?_
    obtain ⟨_, x2, ws, nn, x3, x4⟩ := R2.obj _ _ e2
    obtain ⟨w1, w2, rfl, rfl, rfl⟩ : ∃ w1 w2, ws = [w1, w2] ∧ abs w1 = p ∧ abs w2 = q := by
      cases ws with
      | nil => simp at x4
      | cons w1 r => cases r with
        | nil => simp at x4
        | cons w2 r => cases r with
          | nil => simp at x4; exact ⟨w1, w2, rfl, x4.1, x4.2⟩
          | cons _ _ => simp at x4
    refine wpAny_assign_Tuple (s := { s with heap := h2, toks := tk2 }) (ha.handled rfl) (t := c) (items := [w1, w2].toArray) ⟨_, x3, rfl, nn, rfl⟩ rfl rfl fun h3 hs3 => ?_
    have R3 := R2.grow fun b o e => hs3 b o (Nat.ne_of_lt (Heap.lt_size e)) e
    show wpAny _ A (assignInOrder [assign (.Name y py) env, assign (.Name z pz) env] [w1, w2]) _ _ _
    refine wpAny_assignInOrder_more (wpAny_assign_Name (store_ok (s := { s with heap := h3, toks := tk2 }) X.toEnvK (fun _ => X.above y) hy R3 fun h4 tk4 R4 => ?_))
    refine wpAny_assignInOrder_more (wpAny_assign_Name (store_ok (s := { s with heap := h4, toks := tk4 }) X.toEnvK (fun _ => X.above z) hz R4 fun h5 tk5 R5 => ?_))
    refine wpAny_assignInOrder_none ?_
    refine wpAny_mono (hbody A outer _ rest _ ha hf.remap R5) ?_ fun _ _ e => err e.trans
    rintro f s6 ⟨h6, tk6, H6, m6, rfl, R6, q6⟩
    cases f with
    | next => exact ⟨j - 1, by omega, h6, tk6, H6, m6, i + 1, oI', by omega, rfl, hS2, R6, q6⟩
    | ret v => exact ⟨h6, tk6, H6, m6, rfl, R6.popB hI hbase, q6⟩
    | brk => exact q6.elim
    | cont => exact q6.elim
  · obtain rfl : i = len := by omega
    obtain ⟨hside, hk⟩ := hend m' H' hJ
    exact It.done oI B _ H' _ _ _ hS hside hI hbase R' fun h2 tk2 R2 => wpAny_execs_nil ⟨h2, tk2, H', m', rfl, R2, hk⟩
theorem forListT_ok {y z : Str} {py pz tp pos : Pos} {kk : Nat} {it : Expr} {b : List Stmt} (X : EnvS names env) (hy : storable names y = true) (hz : storable names z = true) (hfold : ∀ v, foldedSetIterable it env v = pure v)
    (h : Ok G n false env m (eval it env) H (fun u H1 => ∃ a vs, abs u = .ref a ∧ H1 a = some (.list vs) ∧ ∃ I : Nat → AMap → AHeap → Prop, I 0 m H1 ∧
      (∀ i v m' H', vs[i]? = some v → I i m' H' → H' a = some (.list vs) ∧ ∃ c p q, v = .ref c ∧ H' c = some (.tup [p, q]) ∧ SOk G n false env (execs b env) ((m'.set y p).set z q) H' (fun m2 H2 => I (i + 1) m2 H2 ∧ H2 a = some (.list vs)) kr x) ∧ ∀ m' H', I vs.length m' H' → kn m' H') (fun c => x c m)) :
    SOk G n false env (exec (.For (.Tuple [.Name y py, .Name z pz] kk tp) it b [] pos) env) m H kn kr x := by
  intro A outer B rest s ha hf R
  refine wpAny_For (h.expr ha hf R fun u h1 tk1 H1 R1 q => ?_) hfold
  obtain ⟨a, vs, e1, e2, I, hI0, hstep, hend⟩ := q
  obtain rfl := abs_ref e1
  obtain ⟨_, x2, ws, nn, x3, x4⟩ := R1.obj _ _ e2
  refine wpAny_pyIter_list (s := { s with heap := h1, toks := tk1 }) ⟨_, x3, rfl, nn, rfl⟩ ?_
  have R2 := R1.pushB { cls := .type "list_iterator", data := .fields #[.ref a, .int 0 0] } rfl
  have hBI : B h1.objs.size = none := R1.freshB (Nat.le_refl _)
  have key := forLoopT_ok (kn := kn) (kr := kr) (x := x) (b := b) (py := py) (pz := pz) (tp := tp) (kk := kk) (s := { s with heap := h1.push { cls := .type "list_iterator", data := .fields #[.ref a, .int 0 0] }, toks := tk1 }) X hy hz (iter_list (G := G) (I := h1.objs.size) (a := a) (vs := vs) (ha.handled rfl)) (fun i m' H' => I i m' H' ∧ H' a = some (.list vs)) ha hf hBI ⟨rfl, rfl⟩ R2 ⟨hI0, e2⟩ R1.base ?_ ?_ fun i oI h hS e => ⟨a, i, oI, e, hS.1, hS.2⟩
  · refine codeAny_mono key fun r s' z => ?_
    cases r with
    | ok f => exact z.trans
    | error e =>
      unfold BackR cameBackBy at z
      unfold cameBackBy
      exact wpAny_mono z (fun _ _ y => y.trans) fun _ _ y => y.trans
  · rintro i m' H' hi ⟨hI, hside⟩
    have hv : vs[i]? = some (vs.getD i .none) := by rw [List.getD_eq_getElem?_getD, List.getElem?_eq_getElem hi]; rfl
    obtain ⟨z1, c, p, q, z2, z3, z4⟩ := hstep i _ m' H' hv hI
    exact ⟨z1, c, p, q, z2, z3, z4⟩
  · rintro m' H' ⟨hI, hside⟩
    exact ⟨hside, hend m' H' hI⟩
end
end Mine
end
section
namespace Mine
open PySem PySem.W PySem.Calls PyProof.Rows

section
variable {G : Gd} {n : Nat} {hd : Bool}

theorem CallF.mono {fa : Addr} {args : List V} {H : AHeap} {k k' : V → AHeap → Prop} {x x' : XE} (h : CallF G n fa args H k x) (hk : ∀ v H', k v H' → k' v H') (hx : ∀ c H', x c H' → x' c H') : CallF G n fa args H k' x' := by
  intro A fl B es s ws ha hf R hw
  refine codeAny_mono (h A fl B es s ws ha hf R hw) fun r s' z => ?_
  cases r with
  | error e => obtain ⟨h', tk, H', a, c, e1, e2, R', Y, q⟩ := z; exact ⟨h', tk, H', a, c, e1, e2, R', Y, hx _ _ q⟩
  | ok f => cases f with
    | ret v => obtain ⟨h', tk, H', e, R', q⟩ := z; exact ⟨h', tk, H', e, R', hk _ _ q⟩
    | next => exact z
    | brk => exact z
    | cont => exact z
theorem wpTruth_mono {u : V} {k k' : Bool → Prop} (h : wpTruth u k) (hk : ∀ b, k b → k' b) : wpTruth u k' := by
  unfold wpTruth at h ⊢
  split at h <;> first | exact hk _ h | exact h.elim
theorem wpBin_mono {o : Op} {u v : V} {H : AHeap} {k k' : V → AHeap → Prop} (h : wpBin o u v H k) (hk : ∀ v H', k v H' → k' v H') : wpBin o u v H k' := by
  unfold wpBin at h ⊢
  split at h <;> first
    | exact hk _ _ h
    | exact ⟨h.1, hk _ _ h.2⟩
    | exact ⟨h.1, h.2.1, hk _ _ h.2.2⟩
    | exact ⟨h.1, h.2.1, h.2.2.1, hk _ _ h.2.2.2⟩
    | (obtain ⟨us, vs, h1, h2, h3, h4⟩ := h; exact ⟨us, vs, h1, h2, h3, fun c hc => hk _ _ (h4 c hc)⟩)
    | exact h.elim
theorem wpCmp_mono {o : Cm} {u v : V} {H : AHeap} {k k' : Bool → Prop} (h : wpCmp o u v H k) (hk : ∀ b, k b → k' b) : wpCmp o u v H k' := by
  unfold wpCmp at h ⊢
  split at h <;> first
    | exact hk _ h
    | (obtain ⟨d, e, h1, h2, h3⟩ := h; exact ⟨d, e, h1, h2, hk _ h3⟩)
    | exact h.elim
theorem wpIs_mono {v : V} {c : Str} {H : AHeap} {k k' : Bool → Prop} (h : wpIs G v c H k) (hk : ∀ b, k b → k' b) : wpIs G v c H k' := by
  have q4 : ∀ {p1 p2 p3 p4 : Prop} {b1 b2 b3 b4 : Bool}, ((p1 ∧ k b1) ∨ (p2 ∧ k b2) ∨ (p3 ∧ k b3) ∨ (p4 ∧ k b4)) → ((p1 ∧ k' b1) ∨ (p2 ∧ k' b2) ∨ (p3 ∧ k' b3) ∨ (p4 ∧ k' b4)) := by
    rintro p1 p2 p3 p4 b1 b2 b3 b4 (⟨h1, h2⟩ | ⟨h1, h2⟩ | ⟨h1, h2⟩ | ⟨h1, h2⟩)
    · exact .inl ⟨h1, hk _ h2⟩
    · exact .inr (.inl ⟨h1, hk _ h2⟩)
    · exact .inr (.inr (.inl ⟨h1, hk _ h2⟩))
    · exact .inr (.inr (.inr ⟨h1, hk _ h2⟩))
  unfold wpIs at h ⊢
  split at h
  · exact q4 h
  · exact q4 h
  · exact q4 h
  · rename_i a
    cases e : H a with
    | none => rw [e] at h; exact h.elim
    | some o =>
      rw [e] at h
      cases o with
      | list vs => exact q4 h
      | tup vs => exact q4 h
      | exc d => exact ⟨h.1, h.2.1, hk _ h.2.2⟩
      | script _ => exact h.elim
      | board _ => exact h.elim
  · exact h.elim
theorem wpBi_mono {f : Str} {vs : List V} {H : AHeap} {k k' : V → AHeap → Prop} (h : wpBi hd f vs H k) (hk : ∀ v H', k v H' → k' v H') : wpBi hd f vs H k' := by
  unfold wpBi at h ⊢
  split at h
  · rename_i a
    cases e : H a with
    | none => rw [e] at h; exact h.elim
    | some o =>
      rw [e] at h
      cases o with
      | list us =>
        rcases h with ⟨h1, h2⟩ | ⟨h1, h2⟩ | ⟨h1, h2, ns, h3, h4, h5⟩
        · exact .inl ⟨h1, hk _ _ h2⟩
        · exact .inr (.inl ⟨h1, fun c hc => hk _ _ (h2 c hc)⟩)
        · exact .inr (.inr ⟨h1, h2, ns, h3, h4, fun c ns' z1 z2 z3 => hk _ _ (h5 c ns' z1 z2 z3)⟩)
      | tup us => exact ⟨h.1, hk _ _ h.2⟩
      | script us => exact ⟨h.1, hk _ _ h.2⟩
      | exc d => exact h.elim
      | board _ => exact h.elim
  · rcases h with ⟨h1, h2⟩ | ⟨h1, h2⟩
    · exact .inl ⟨h1, hk _ _ h2⟩
    · exact .inr ⟨h1, hk _ _ h2⟩
  · exact ⟨h.1, hk _ _ h.2⟩
  · rcases h with ⟨h1, h2, h3⟩ | ⟨h1, h2, h3⟩
    · exact .inl ⟨h1, h2, hk _ _ h3⟩
    · exact .inr ⟨h1, h2, hk _ _ h3⟩
  · exact h.elim
theorem wpSub_mono {u v : V} {H : AHeap} {k k' : V → Prop} (h : wpSub u v H k) (hk : ∀ b, k b → k' b) : wpSub u v H k' := by
  unfold wpSub at h ⊢
  split at h
  · rename_i a i
    cases e : H a with
    | none => rw [e] at h; exact h.elim
    | some o =>
      rw [e] at h
      cases o with
      | list us => obtain ⟨z, h1, h2⟩ := h; exact ⟨z, h1, hk _ h2⟩
      | tup us => obtain ⟨z, h1, h2⟩ := h; exact ⟨z, h1, hk _ h2⟩
      | script us => obtain ⟨z, h1, h2, h3⟩ := h; exact ⟨z, h1, h2, hk _ h3⟩
      | exc d => exact h.elim
      | board _ => exact h.elim
  · exact h.elim
theorem wpSlice_mono {u lo hi : V} {H : AHeap} {k k' : V → AHeap → Prop} (h : wpSlice u lo hi H k) (hk : ∀ v H', k v H' → k' v H') : wpSlice u lo hi H k' := by
  unfold wpSlice at h ⊢
  split at h
  · obtain ⟨vs, l, r, h1, h2, h3, h4⟩ := h; exact ⟨vs, l, r, h1, h2, h3, fun c hc => hk _ _ (h4 c hc)⟩
  · exact h.elim
theorem wpMeth_mono {u : V} {f : Str} {vs : List V} {H1 H : AHeap} {k k' : V → AHeap → Prop} {x x' : XE} (h : wpMeth G n u f vs H1 H k x) (hk : ∀ v H', k v H' → k' v H') (hx : ∀ c H', x c H' → x' c H') : wpMeth G n u f vs H1 H k' x' := by
  unfold wpMeth at h ⊢
  split at h
  · rename_i a
    cases e : H1 a with
    | none => rw [e] at h; exact h.elim
    | some o =>
      rw [e] at h
      cases o with
      | list us => obtain ⟨us, v, h1, h2, h3, h4⟩ := h; exact ⟨us, v, h1, h2, h3, hk _ _ h4⟩
      | board f => obtain ⟨n', fa, h1, h2, h3⟩ := h; exact ⟨n', fa, h1, h2, h3.mono hk hx⟩
      | tup us => exact h.elim
      | script us => exact h.elim
      | exc d => exact h.elim
  · exact h.elim
theorem wpAttr_mono {u : V} {f : Str} {H : AHeap} {k k' : V → Prop} (h : wpAttr u f H k) (hk : ∀ b, k b → k' b) : wpAttr u f H k' := by
  unfold wpAttr at h ⊢
  split at h
  · obtain ⟨h1, l, h2, h3⟩ := h; exact ⟨h1, l, h2, hk _ h3⟩
  · exact h.elim

theorem wpEL_mono (p : P) : (∀ (m : AMap) (H : AHeap) (k k' : V → AHeap → Prop) (x x' : XE), wpE G n hd p m H k x → (∀ v H', k v H' → k' v H') → (∀ c H', x c H' → x' c H') → wpE G n hd p m H k' x') ∧
    ∀ (m : AMap) (H : AHeap) (k k' : List V → AHeap → Prop) (x x' : XE), wpL G n hd p m H k x → (∀ v H', k v H' → k' v H') → (∀ c H', x c H' → x' c H') → wpL G n hd p m H k' x' := by
  induction p with
  | nil => exact ⟨fun m H k k' x x' h _ _ => h.elim, fun m H k k' x x' h hk _ => hk _ _ h⟩
  | cons a l iha ihl => exact ⟨fun m H k k' x x' h _ _ => h.elim, fun m H k k' x x' h hk hx => iha.1 _ _ _ _ _ _ h (fun v H1 z => ihl.2 _ _ _ _ _ _ z (fun vs H2 z => hk _ _ z) hx) hx⟩
  | const v => exact ⟨fun m H k k' x x' h hk _ => hk _ _ h, fun m H k k' x x' h _ _ => h.elim⟩
  | name y => exact ⟨fun m H k k' x x' h hk _ => by obtain ⟨v, h1, h2⟩ := h; exact ⟨v, h1, hk _ _ h2⟩, fun m H k k' x x' h _ _ => h.elim⟩
  | glob y => exact ⟨fun m H k k' x x' h hk _ => by obtain ⟨i, t, h1, h2⟩ := h; exact ⟨i, t, h1, hk _ _ h2⟩, fun m H k k' x x' h _ _ => h.elim⟩
  | bin o a b iha ihb => exact ⟨fun m H k k' x x' h hk hx => iha.1 _ _ _ _ _ _ h (fun v H1 z => ihb.1 _ _ _ _ _ _ z (fun w H2 z => wpBin_mono z hk) hx) hx, fun m H k k' x x' h _ _ => h.elim⟩
  | neg a iha => exact ⟨fun m H k k' x x' h hk hx => iha.1 _ _ _ _ _ _ h (fun v H1 z => by obtain ⟨i, z1, z2⟩ := z; exact ⟨i, z1, hk _ _ z2⟩) hx, fun m H k k' x x' h _ _ => h.elim⟩
  | not a iha => exact ⟨fun m H k k' x x' h hk hx => iha.1 _ _ _ _ _ _ h (fun v H1 z => wpTruth_mono z fun b z => hk _ _ z) hx, fun m H k k' x x' h _ _ => h.elim⟩
  | and a b iha ihb => exact ⟨fun m H k k' x x' h hk hx => iha.1 _ _ _ _ _ _ h (fun v H1 z => wpTruth_mono z fun t z => ⟨fun e => ihb.1 _ _ _ _ _ _ (z.1 e) hk hx, fun e => hk _ _ (z.2 e)⟩) hx, fun m H k k' x x' h _ _ => h.elim⟩
  | or a b iha ihb => exact ⟨fun m H k k' x x' h hk hx => iha.1 _ _ _ _ _ _ h (fun v H1 z => wpTruth_mono z fun t z => ⟨fun e => ihb.1 _ _ _ _ _ _ (z.1 e) hk hx, fun e => hk _ _ (z.2 e)⟩) hx, fun m H k k' x x' h _ _ => h.elim⟩
  | cmp o a b iha ihb => exact ⟨fun m H k k' x x' h hk hx => iha.1 _ _ _ _ _ _ h (fun v H1 z => ihb.1 _ _ _ _ _ _ z (fun w H2 z => wpCmp_mono z fun b z => hk _ _ z) hx) hx, fun m H k k' x x' h _ _ => h.elim⟩
  | cmp2 o o' a b c iha ihb ihc => exact ⟨fun m H k k' x x' h hk hx => iha.1 _ _ _ _ _ _ h (fun v H1 z => ihb.1 _ _ _ _ _ _ z (fun w H2 z => wpCmp_mono z fun b z => ⟨fun e => hk _ _ (z.1 e), fun e => ihc.1 _ _ _ _ _ _ (z.2 e) (fun t H3 z => wpCmp_mono z fun b z => hk _ _ z) hx⟩) hx) hx, fun m H k k' x x' h _ _ => h.elim⟩
  | isIn a ns iha => exact ⟨fun m H k k' x x' h hk hx => iha.1 _ _ _ _ _ _ h (fun v H1 z => by obtain ⟨i, z1, z2⟩ := z; exact ⟨i, z1, hk _ _ z2⟩) hx, fun m H k k' x x' h _ _ => h.elim⟩
  | isinst a c iha => exact ⟨fun m H k k' x x' h hk hx => iha.1 _ _ _ _ _ _ h (fun v H1 z => wpIs_mono z fun b z => hk _ _ z) hx, fun m H k k' x x' h _ _ => h.elim⟩
  | bi f as ih => exact ⟨fun m H k k' x x' h hk hx => ih.2 _ _ _ _ _ _ h (fun v H1 z => wpBi_mono z hk) hx, fun m H k k' x x' h _ _ => h.elim⟩
  | call f as ih => exact ⟨fun m H k k' x x' h hk hx => by obtain ⟨h1, n', fa, h2, h3⟩ := h; exact ⟨h1, n', fa, h2, ih.2 _ _ _ _ _ _ h3 (fun v H1 z => z.mono hk hx) hx⟩, fun m H k k' x x' h _ _ => h.elim⟩
  | make f as ih => exact ⟨fun m H k k' x x' h hk hx => by obtain ⟨h1, n', C, fa, h2, h3⟩ := h; exact ⟨h1, n', C, fa, h2, ih.2 _ _ _ _ _ _ h3 (fun v H1 z a ha => (z a ha).mono (fun v H' z => ⟨z.1, hk _ _ z.2⟩) hx) hx⟩, fun m H k k' x x' h _ _ => h.elim⟩
  | meth o f as iho ih => exact ⟨fun m H k k' x x' h hk hx => ⟨h.1, iho.1 _ _ _ _ _ _ h.2 (fun u H1 z => ⟨z.1, ih.2 _ _ _ _ _ _ z.2 (fun vs H2 z => wpMeth_mono z hk hx) hx⟩) hx⟩, fun m H k k' x x' h _ _ => h.elim⟩
  | attr o f iho => exact ⟨fun m H k k' x x' h hk hx => iho.1 _ _ _ _ _ _ h (fun u H1 z => wpAttr_mono z fun v z => hk _ _ z) hx, fun m H k k' x x' h _ _ => h.elim⟩
  | sub o i iho ihi => exact ⟨fun m H k k' x x' h hk hx => iho.1 _ _ _ _ _ _ h (fun u H1 z => ihi.1 _ _ _ _ _ _ z (fun v H2 z => wpSub_mono z fun r z => hk _ _ z) hx) hx, fun m H k k' x x' h _ _ => h.elim⟩
  | slice o lo hi iho ihl ihh => exact ⟨fun m H k k' x x' h hk hx => iho.1 _ _ _ _ _ _ h (fun u H1 z => ihl.1 _ _ _ _ _ _ z (fun l H2 z => ihh.1 _ _ _ _ _ _ z (fun r H3 z => wpSlice_mono z hk) hx) hx) hx, fun m H k k' x x' h _ _ => h.elim⟩
  | list es ih => exact ⟨fun m H k k' x x' h hk hx => ih.2 _ _ _ _ _ _ h (fun vs H1 z => ⟨z.1, fun c hc => hk _ _ (z.2 c hc)⟩) hx, fun m H k k' x x' h _ _ => h.elim⟩
  | tup es ih => exact ⟨fun m H k k' x x' h hk hx => ih.2 _ _ _ _ _ _ h (fun vs H1 z => ⟨z.1, fun c hc => hk _ _ (z.2 c hc)⟩) hx, fun m H k k' x x' h _ _ => h.elim⟩
  | comp rng e y fv it cond ihe ihi ihc =>
    refine ⟨fun m H k k' x x' h hk hx => ?_, fun m H k k' x x' h _ _ => h.elim⟩
    cases rng with
    | false =>
      exact ⟨h.1, ihi.1 _ _ _ _ _ _ h.2 (fun u H1 z => by
        obtain ⟨a, vs, z1, z2, I, z3, z4, z5⟩ := z
        exact ⟨a, vs, z1, z2, I, z3, z4, fun ys H' z => ⟨(z5 ys H' z).1, fun c hc => hk _ _ ((z5 ys H' z).2 c hc)⟩⟩) hx⟩
    | true =>
      exact ⟨h.1, ihi.2 _ _ _ _ _ _ h.2 (fun u H1 z => by
        obtain ⟨a, b, c, z1, z2, z3, z4, I, z5, z6, z7⟩ := z
        exact ⟨a, b, c, z1, z2, z3, z4, I, z5, z6, fun ys H' z c hc => hk _ _ (z7 ys H' z c hc)⟩) hx⟩
  | _ => exact ⟨fun m H k k' x x' h _ _ => h.elim, fun m H k k' x x' h _ _ => h.elim⟩
theorem wpE_mono {p : P} {m : AMap} {H : AHeap} {k k' : V → AHeap → Prop} {x : XE} (h : wpE G n hd p m H k x) (hk : ∀ v H', k v H' → k' v H') : wpE G n hd p m H k' x := (wpEL_mono p).1 _ _ _ _ _ _ h hk fun _ _ z => z
theorem wpL_mono {p : P} {m : AMap} {H : AHeap} {k k' : List V → AHeap → Prop} {x : XE} (h : wpL G n hd p m H k x) (hk : ∀ v H', k v H' → k' v H') : wpL G n hd p m H k' x := (wpEL_mono p).2 _ _ _ _ _ _ h hk fun _ _ z => z
end
end Mine
end
section
namespace Mine
open PySem PySem.W PySem.Calls PyProof.Rows

inductive Node where
  | E (e : Expr)
  | O (e : Option Expr)
  | L (es : List Expr)
  | S (s : Stmt)
  | SS (ss : List Stmt)
  | H (hs : List ExceptHandler)
noncomputable def opRel : Op → Operator → Bool
  | .add, .Add | .sub, .Sub | .mul, .Mult | .fdiv, .FloorDiv | .mod, .Mod | .pow, .Pow => true
  | _, _ => false
noncomputable def cmRel : Cm → CmpOp → Bool
  | .lt, .Lt | .le, .LtE | .gt, .Gt | .ge, .GtE | .eq, .Eq | .ne, .NotEq | .is, .Is | .isNot, .IsNot => true
  | _, _ => false
noncomputable def isComp : Expr → Bool
  | .ListComp .. => true
  | .SetComp .. => true
  | .DictComp .. => true
  | _ => false
noncomputable def plainIter : Expr → Bool
  | .Name .. => true
  | .Subscript .. => true
  | .Attribute .. => true
  | .List .. => true
  | _ => false
/-- does the name take the comprehension's list ahead of its variables -/
noncomputable def swapB (N : List (Str × NameKind)) (scope : Scope) (vp : Pos) (t : Str) (tp : Pos) : Bool := N.lookup t == some .local && tp.line == vp.line && !(scope.names.any fun (n, k) => n == t && (k == .local || k == .cell))

abbrev Names := List (Str × NameKind)
inductive Tr : Names → Node → P → Prop
  | cInt {N i k p} : Tr N (.E (.Constant (.int i) k p)) (.const (.int i))
  | cStr {N i k p} : Tr N (.E (.Constant (.str i) k p)) (.const (.str i))
  | cBool {N i k p} : Tr N (.E (.Constant (.bool i) k p)) (.const (.bool i))
  | cNone {N k p} : Tr N (.E (.Constant .none k p)) (.const .none)
  | name {N y p} (h1 : (y == ("__debug__" : Str)) = false) (h2 : (y == ("__classdict__" : Str)) = false) : Tr N (.E (.Name y p)) (.name y)
  | glob {N y p} (h1 : (y == ("__debug__" : Str)) = false) (h2 : N.lookup y = some .globalImplicit) : Tr N (.E (.Name y p)) (.glob y)
  | bin {N o o' ea eb p a b} (h : opRel o o' = true) (ha : Tr N (.E ea) a) (hb : Tr N (.E eb) b) : Tr N (.E (.BinOp ea o' eb p)) (.bin o a b)
  | neg {N ea p a} (ha : Tr N (.E ea) a) : Tr N (.E (.UnaryOp .USub ea p)) (.neg a)
  | not {N ea p a} (ha : Tr N (.E ea) a) : Tr N (.E (.UnaryOp .Not ea p)) (.not a)
  | one {N o ea p a} (ha : Tr N (.E ea) a) : Tr N (.E (.BoolOp o [ea] p)) a
  | and {N ea eb r p a b} (ha : Tr N (.E ea) a) (hb : Tr N (.E (.BoolOp .And (eb :: r) p)) b) : Tr N (.E (.BoolOp .And (ea :: eb :: r) p)) (.and a b)
  | or {N ea eb r p a b} (ha : Tr N (.E ea) a) (hb : Tr N (.E (.BoolOp .Or (eb :: r) p)) b) : Tr N (.E (.BoolOp .Or (ea :: eb :: r) p)) (.or a b)
  | cmp {N o o' ea eb p a b} (h : cmRel o o' = true) (hm : behindInMarks o' eb = false) (ha : Tr N (.E ea) a) (hb : Tr N (.E eb) b) : Tr N (.E (.Compare ea [o'] [eb] p)) (.cmp o a b)
  | cmp2 {N o o' q q' ea eb ec p a b c} (h : cmRel o o' = true) (h' : cmRel q q' = true) (hm : lastMarks [o', q'] [eb, ec] = false) (ha : Tr N (.E ea) a) (hb : Tr N (.E eb) b) (hc : Tr N (.E ec) c) : Tr N (.E (.Compare ea [o', q'] [eb, ec] p)) (.cmp2 o q a b c)
  | isinst {N np ea c cp p a} (h1 : N.lookup ("isinstance" : Str) = some .globalImplicit) (h2 : N.lookup c = some .globalImplicit) (hs : noStar [ea] = true) (ha : Tr N (.E ea) a) : Tr N (.E (.Call (.Name "isinstance" np) [ea, .Name c cp] [] p)) (.isinst a c)
  | bi {N f np es p as} (h1 : N.lookup f = some .globalImplicit) (h2 : (biVal f).isSome = true) (ha : Tr N (.L es) as) : Tr N (.E (.Call (.Name f np) es [] p)) (.bi f as)
  | call {N f np es p as} (h1 : N.lookup f = some .globalImplicit) (h2 : (f == ("__debug__" : Str)) = false) (ha : Tr N (.L es) as) : Tr N (.E (.Call (.Name f np) es [] p)) (.call f as)
  | make {N f np es p as} (h1 : N.lookup f = some .globalImplicit) (h2 : (f == ("__debug__" : Str)) = false) (ha : Tr N (.L es) as) : Tr N (.E (.Call (.Name f np) es [] p)) (.make f as)
  | meth {N o f ap es p a as} (h1 : plainBase o = true) (h2 : decide (es.length < 30) = true) (h3 : (ap.endLine == p.line) = true) (ho : Tr N (.E o) a) (ha : Tr N (.L es) as) : Tr N (.E (.Call (.Attribute o f ap) es [] p)) (.meth a f as)
  | attr {N y yp f p a} (ho : Tr N (.E (.Name y yp)) a) : Tr N (.E (.Attribute (.Name y yp) f p)) (.attr a f)
  | sub {N o i p a b} (h1 : notSlice i = true) (ho : Tr N (.E o) a) (hi : Tr N (.E i) b) : Tr N (.E (.Subscript o i p)) (.sub a b)
  | slice {N o lo hi sp p a b c} (ho : Tr N (.E o) a) (hl : Tr N (.O lo) b) (hh : Tr N (.O hi) c) : Tr N (.E (.Subscript o (.Slice lo hi none sp) p)) (.slice a b c)
  | list {N es p as} (ha : Tr N (.L es) as) : Tr N (.E (.List es p)) (.list as)
  | tup {N es k p as} (ha : Tr N (.L es) as) : Tr N (.E (.Tuple es k p)) (.tup as)
  | comp0 {N elt y px iter scope p fv e it} (h1 : compOk N scope y fv = true) (h2 : plainIter iter = true) (he : Tr (relN N scope.names) (.E elt) e) (hi : Tr N (.E iter) it) : Tr N (.E (.ListComp elt [⟨.Name y px, iter, [], 0⟩] scope p)) (.comp false e y fv it (.const (.bool true)))
  | comp1 {N elt y px iter c scope p fv e it q} (h1 : compOk N scope y fv = true) (h2 : plainIter iter = true) (he : Tr (relN N scope.names) (.E elt) e) (hi : Tr N (.E iter) it) (hq : Tr (relN N scope.names) (.E c) q) : Tr N (.E (.ListComp elt [⟨.Name y px, iter, [c], 0⟩] scope p)) (.comp false e y fv it q)
  | oNone {N} : Tr N (.O none) (.const .none)
  | oSome {N e a} (h : Tr N (.E e) a) : Tr N (.O (some e)) a
  | lNil {N} : Tr N (.L []) .nil
  | lCons {N e r a as} (hs : noStar [e] = true) (h : Tr N (.E e) a) (hr : Tr N (.L r) as) : Tr N (.L (e :: r)) (.cons a as)
  | ssNil {N} : Tr N (.SS []) .nil
  | ssCons {N s r a b} (h : Tr N (.S s) a) (hr : Tr N (.SS r) b) : Tr N (.SS (s :: r)) (.cons a b)
  | assign {N y p e pos a} (h1 : storable N y = true) (h2 : isComp e = false) (h : Tr N (.E e) a) : Tr N (.S (.Assign [.Name y p] e pos)) (.assign y a)
  | assignC {N z pz elt gens scope p pos a} (h1 : storable N z = true) (h2 : swapB N scope p z pz = false) (h : Tr N (.E (.ListComp elt gens scope p)) a) : Tr N (.S (.Assign [.Name z pz] (.ListComp elt gens scope p) pos)) (.assign z a)
  | assignS {N z pz elt gens scope p pos a} (h1 : storable N z = true) (h2 : swapB N scope p z pz = true) (h : Tr N (.E (.ListComp elt gens scope p)) a) : Tr N (.S (.Assign [.Name z pz] (.ListComp elt gens scope p) pos)) (.assign z a)
  | setAttr {N o f p e pos a b} (h2 : isComp e = false) (ho : Tr N (.E o) a) (h : Tr N (.E e) b) : Tr N (.S (.Assign [.Attribute o f p] e pos)) (.setAttr a f b)
  | setItem {N o i p e pos a b c} (h2 : isComp e = false) (ho : Tr N (.E o) a) (hi : Tr N (.E i) b) (h : Tr N (.E e) c) : Tr N (.S (.Assign [.Subscript o i p] e pos)) (.setItem a b c)
  | expr {N e pos a} (h2 : isComp e = false) (h : Tr N (.E e) a) : Tr N (.S (.Expr e pos)) (.expr a)
  | ite {N t b o pos a c d} (h : Tr N (.E t) a) (hb : Tr N (.SS b) c) (ho : Tr N (.SS o) d) : Tr N (.S (.If t b o pos)) (.ite a c d)
  | forL {N y p it b pos a c} (h1 : storable N y = true) (h2 : plainIter it = true) (h : Tr N (.E it) a) (hb : Tr N (.SS b) c) : Tr N (.S (.For (.Name y p) it b [] pos)) (.forL y a c)
  | forT {N y py z pz k tp it b pos a c} (h1 : storable N y = true) (h3 : storable N z = true) (h2 : plainIter it = true) (h : Tr N (.E it) a) (hb : Tr N (.SS b) c) : Tr N (.S (.For (.Tuple [.Name y py, .Name z pz] k tp) it b [] pos)) (.forT y z a c)
  | forR {N y p np es cp b pos as c} (h1 : storable N y = true) (h2 : N.lookup ("range" : Str) = some .globalImplicit) (h : Tr N (.L es) as) (hb : Tr N (.SS b) c) : Tr N (.S (.For (.Name y p) (.Call (.Name "range" np) es [] cp) b [] pos)) (.forR y as c)
  | while {N t b pos a c} (h : Tr N (.E t) a) (hb : Tr N (.SS b) c) : Tr N (.S (.While t b [] pos)) (.while a c)
  | ret {N e pos a} (h : Tr N (.E e) a) : Tr N (.S (.Return (some e) pos)) (.ret a)
  | raise {N c np t k tp cp pos} (h1 : N.lookup c = some .globalImplicit) : Tr N (.S (.Raise (some (.Call (.Name c np) [.Constant (.str t) k tp] [] cp)) none pos)) (.raise c)
  | tryE {N b h0 hs pos a d} (hb : Tr N (.SS b) a) (hh : Tr N (.H (h0 :: hs)) d) : Tr N (.S (.Try b (h0 :: hs) [] [] pos)) (.tryE a d)
  | hNil {N} : Tr N (.H []) .nil
  | hCons {N c np nm b0 b pos hs a d} (h1 : N.lookup c = some .globalImplicit) (h2 : ∀ y, nm = some y → N.lookup y = some .local) (hb : Tr N (.SS (b0 :: b)) a) (hr : Tr N (.H hs) d) : Tr N (.H (.ExceptHandler (some (.Name c np)) nm (b0 :: b) pos :: hs)) (.cons (.handler c nm a) d)

noncomputable def SdE (G : Gd) (N : Names) (e : Expr) (p : P) : Prop := ∀ n hd env m H k x, EnvK N env → wpE G n hd p m H k x → Ok G n hd env m (eval e env) H (fun v => k (abs v)) x
noncomputable def SdT (G : Gd) (N : Names) (e : Expr) (p : P) : Prop := ∀ n hd env m H k x, EnvK N env → wpE G n hd p m H (fun u H1 => wpTruth u fun b => k b H1) x → Ok G n hd env m (isTrue e env (eval e env)) H k x
noncomputable def SdL (G : Gd) (N : Names) (es : List Expr) (p : P) : Prop := ∀ n hd env m H k x, EnvK N env → wpL G n hd p m H k x → Args1 G n hd env m es H k x
noncomputable def Sd (G : Gd) (N : Names) : Node → P → Prop
  | .E e, p => SdE G N e p ∧ SdT G N e p
  | .O e, p => ∀ n hd env m H k x, EnvK N env → wpE G n hd p m H k x → Ok G n hd env m (evalPart e env) H (fun v => k (abs v)) x
  | .L es, p => noStar es = true ∧ SdL G N es p
  | .S s, p => ∀ n hd env m H kn kr x, EnvS N env → wpS G n hd p m H kn kr x → SOk G n hd env (exec s env) m H kn kr x
  | .SS ss, p => ∀ n hd env m H kn kr x, EnvS N env → wpS G n hd p m H kn kr x → SOk G n hd env (execs ss env) m H kn kr x
  | .H hs, p => ∀ n env c m H kn kr x, EnvS N env → wpH G n p c m H kn kr x → HOk G n env hs c m H kn kr x

section
variable {G : Gd} {N : Names}

theorem T_of {e : Expr} {p : P} (he : ∀ env (whole : Sem Value), isTrue e env whole = (do let v ← whole; standAt e.pos; holding [v] (truthy v))) (h : SdE G N e p) : SdE G N e p ∧ SdT G N e p := by
  refine ⟨h, fun n hd env m H k x X hw => ?_⟩
  intro A fl B rest s ha hf R
  refine isTrue_plain (wpAny_mono (h n hd env m H _ x X hw A fl B rest s ha hf R) ?_ fun _ _ z => z) (he _ _)
  rintro v s1 ⟨h1, tk1, H1, rfl, R1, q⟩
  exact wpAny_mono (truth_ok (x := x) q rfl A fl B rest _ ha hf R1) (fun _ _ z => z.trans) fun _ _ z => z.trans
theorem op_of {o : Op} {o' : Operator} (h : opRel o o' = true) : (o = .add ∧ o' = .Add) ∨ (o = .sub ∧ o' = .Sub) ∨ (o = .mul ∧ o' = .Mult) ∨ (o = .fdiv ∧ o' = .FloorDiv) ∨ (o = .mod ∧ o' = .Mod) ∨ (o = .pow ∧ o' = .Pow) := by
  cases o <;> cases o' <;> first | (simp; done) | cases h
theorem cm_of {o : Cm} {o' : CmpOp} (h : cmRel o o' = true) : (o = .lt ∧ o' = .Lt) ∨ (o = .le ∧ o' = .LtE) ∨ (o = .gt ∧ o' = .Gt) ∨ (o = .ge ∧ o' = .GtE) ∨ (o = .eq ∧ o' = .Eq) ∨ (o = .ne ∧ o' = .NotEq) ∨ (o = .is ∧ o' = .Is) ∨ (o = .isNot ∧ o' = .IsNot) := by
  cases o <;> cases o' <;> first | (simp; done) | cases h
theorem truthy_bool' {M : Model} {A : Around} {E : Value → Shared → Prop} {s : Shared} {b : Bool} {Q : Bool → Shared → Prop} (h : Q b s) : wpAny M A (truthy (.bool b)) Q E s := wpAny_pure h

/-- one comparison -/
theorem cmp_tree {n : Nat} {hd : Bool} {env : Env} {m : AMap} {H : AHeap} {x : XE} {o : Cm} {o' : CmpOp} {u v : Value} {k : Bool → AHeap → Prop} (ho : cmRel o o' = true) (h : wpCmp o (abs u) (abs v) H fun b => k b H) : Ok G n hd env m (compareOp o' u v) H (fun r H' => ∃ b, r = .bool b ∧ k b H') x := cmOf_ok (cm_of ho) h rfl rfl
end
end Mine
end
section
namespace Mine
open PySem PySem.W PySem.Calls PyProof.Rows

section
variable {G : Gd} {N : Names} {n : Nat} {hd : Bool} {env : Env} {m : AMap} {H : AHeap} {x : XE}

theorem Ok.imp {α : Type} {t : Sem α} {k k' : α → AHeap → Prop} (h : Ok G n hd env m t H k x) (hk : ∀ v H', k v H' → k' v H') : Ok G n hd env m t H k' x := h.mono hk fun _ _ z => z
/-- two trees, then a third -/
theorem Ok.next2 {α β γ : Type} {t : Sem α} {t2 : α → Sem β} {f : α → β → Sem γ} {k : γ → AHeap → Prop} {A : Around} {fl : List Env} {B : Addr → Option Obj} {rest : List (Env × AMap)} {s : Shared}
    (h : Ok G n hd env m t H (fun a H1 => Ok G n hd env m (t2 a) H1 (fun b H2 => Ok G n hd env m (f a b) H2 k x) x) x) (ha : AOk A hd n fl) (hf : FlOk fl ((env, m) :: rest)) (R : Rep G B ((env, m) :: rest) H s.heap) :
    wpAny (model G.prog G.w) A t (fun a s1 => wpAny (model G.prog G.w) A (t2 a) (fun b s2 => wpAny (model G.prog G.w) A (f a b) (NPost G B ((env, m) :: rest) s k) (XPost G B fl ((env, m) :: rest) s x) s2) (XPost G B fl ((env, m) :: rest) s x) s1) (XPost G B fl ((env, m) :: rest) s x) s := by
  refine wpAny_mono (h A fl B rest s ha hf R) ?_ fun _ _ e => e
  rintro a s1 ⟨h1, tk, H1, rfl, R1, q⟩
  refine wpAny_mono (q A fl B rest _ ha hf R1) ?_ fun _ _ z => z.trans
  rintro b s2 ⟨h2, tk2, H2, rfl, R2, q2⟩
  exact wpAny_mono (q2 A fl B rest _ ha hf R2) (fun _ _ z => z.trans.trans) fun _ _ z => z.trans.trans

theorem sd_bin {o : Op} {o' : Operator} {ea eb : Expr} {p : Pos} {a b : P} (h : opRel o o' = true) (ha : SdE G N ea a) (hb : SdE G N eb b) : SdE G N (.BinOp ea o' eb p) (.bin o a b) := by
  intro n hd env m H k x X hw A fl B rest s hA hf R
  exact wpAny_BinOp (((ha n hd env m H _ x X hw).imp fun u H1 q => (hb n hd env m H1 _ x X q).imp fun v H2 q2 => opOf_ok (op_of h) q2 rfl rfl).next2 hA hf R)
theorem sd_neg {ea : Expr} {p : Pos} {a : P} (ha : SdE G N ea a) : SdE G N (.UnaryOp .USub ea p) (.neg a) := by
  intro n hd env m H k x X hw A fl B rest s hA hf R
  refine UnaryOp_ (((ha n hd env m H _ x X hw).imp (k' := fun u H1 => Ok G n hd env m (unaryOp .USub u) H1 (fun v => k (abs v)) x) fun u H1 q => ?_).next hA hf R)
  obtain ⟨i, e, q⟩ := q
  obtain ⟨t, rfl⟩ := abs_int e
  intro A fl B rest s hA hf R
  exact neg_int ⟨s.heap, _, H1, rfl, R, q⟩
theorem truthy_at {k : Bool → AHeap → Prop} {u : Value} (h : wpTruth (abs u) fun b => k b H) : Ok G n hd env m (truthy u) H k x := truth_ok h rfl
theorem sd_not {ea : Expr} {p : Pos} {a : P} (ha : SdE G N ea a) (ht : SdT G N ea a) : SdE G N (.UnaryOp .Not ea p) (.not a) ∧ SdT G N (.UnaryOp .Not ea p) (.not a) := by
  constructor
  · intro n hd env m H k x X hw A fl B rest s hA hf R
    refine UnaryOp_ (((ha n hd env m H _ x X hw).imp (k' := fun u H1 => Ok G n hd env m (unaryOp .Not u) H1 (fun v => k (abs v)) x) fun u H1 q => ?_).next hA hf R)
    intro A fl B rest s hA hf R
    refine not_of (wpAny_mono (truthy_at (x := x) (k := fun b H' => k (.bool (!b)) H') q A fl B rest s hA hf R) ?_ fun _ _ z => z)
    rintro b s1 ⟨h1, tk1, H1', rfl, R1, q1⟩
    exact ⟨h1, tk1, H1', rfl, R1, q1⟩
  · intro n hd env m H k x X hw A fl B rest s hA hf R
    refine isTrue_not (wpAny_mono (ht n hd env m H (fun b H' => k (!b) H') x X hw A fl B rest s hA hf R) ?_ fun _ _ z => z)
    rintro b s1 ⟨h1, tk1, H1', rfl, R1, q1⟩
    exact ⟨h1, tk1, H1', rfl, R1, q1⟩
theorem sd_one {o : BoolOp} {ea : Expr} {p : Pos} {a : P} (ha : SdE G N ea a) (ht : SdT G N ea a) : SdE G N (.BoolOp o [ea] p) a ∧ SdT G N (.BoolOp o [ea] p) a := by
  constructor
  · intro n hd env m H k x X hw A fl B rest s hA hf R
    exact BoolOp_one (ha n hd env m H _ x X hw A fl B rest s hA hf R)
  · intro n hd env m H k x X hw A fl B rest s hA hf R
    have h1 := ht n hd env m H k x X hw A fl B rest s hA hf R
    cases o with
    | And =>
      refine isTrue_and (wpAny_mono h1 ?_ fun _ _ z => z)
      intro b s1 q
      cases b with
      | true => exact isTrue_and_nil q
      | false => exact q
    | Or =>
      refine isTrue_or (wpAny_mono h1 ?_ fun _ _ z => z)
      intro b s1 q
      cases b with
      | true => exact q
      | false => exact isTrue_or_nil q
/-- a truth that is told anew -/
theorem truth_again {u : V} {k : Bool → Prop} (b : Bool) (P Q : Prop) (h : wpTruth u fun t => (t = !b → P) ∧ (t = b → wpTruth u k)) : wpTruth u fun t => (t = !b → P) ∧ (t = b → k b) := by
  unfold wpTruth at h ⊢
  split at h
  · rename_i c; exact ⟨h.1, fun e => by have z : k c := h.2 e; rw [e] at z; exact z⟩
  · rename_i c; exact ⟨h.1, fun e => by have z : k (decide (c ≠ 0)) := h.2 e; rw [e] at z; exact z⟩
  · exact ⟨h.1, fun e => by have z : k false := h.2 e; rw [e] at z; exact z⟩
  · exact h.elim
theorem sd_and {ea eb : Expr} {r : List Expr} {p : Pos} {a b : P} (ha : SdE G N ea a) (hta : SdT G N ea a) (hb : SdE G N (.BoolOp .And (eb :: r) p) b) (htb : SdT G N (.BoolOp .And (eb :: r) p) b) : SdE G N (.BoolOp .And (ea :: eb :: r) p) (.and a b) ∧ SdT G N (.BoolOp .And (ea :: eb :: r) p) (.and a b) := by
  constructor
  · intro n hd env m H k x X hw A fl B rest s hA hf R
    refine BoolOp_and (wpAny_mono (ha n hd env m H _ x X hw A fl B rest s hA hf R) ?_ fun _ _ z => z)
    rintro u s1 ⟨h1, tk1, H1, rfl, R1, q⟩
    refine wpAny_mono (truthy_at (x := x) (k := fun t H1 => (t = true → wpE G n hd b m H1 k x) ∧ (t = false → k (abs u) H1)) q A fl B rest _ hA hf R1) ?_ fun _ _ z => z.trans
    rintro t s2 ⟨h2, tk2, H2, rfl, R2, q2⟩
    cases t with
    | true => exact wpAny_mono (hb n hd env m H2 k x X (q2.1 rfl) A fl B rest _ hA hf R2) (fun _ _ z => z.trans.trans) fun _ _ z => z.trans.trans
    | false => exact ⟨h2, tk2, H2, rfl, R2, q2.2 rfl⟩
  · intro n hd env m H k x X hw A fl B rest s hA hf R
    have hw' : wpE G n hd a m H (fun u H1 => wpTruth u fun t => (t = true → wpE G n hd b m H1 (fun u H2 => wpTruth u fun t => k t H2) x) ∧ (t = false → k false H1)) x := wpE_mono hw fun u H1 q => truth_again false _ True q
    refine isTrue_and (wpAny_mono (hta n hd env m H (fun t H1 => (t = true → wpE G n hd b m H1 (fun u H2 => wpTruth u fun t => k t H2) x) ∧ (t = false → k false H1)) x X hw' A fl B rest s hA hf R) ?_ fun _ _ z => z)
    rintro t s1 ⟨h1, tk1, H1, rfl, R1, q⟩
    cases t with
    | true => exact wpAny_mono (htb n hd env m H1 k x X (q.1 rfl) A fl B rest _ hA hf R1) (fun _ _ z => z.trans) fun _ _ z => z.trans
    | false => exact ⟨h1, tk1, H1, rfl, R1, q.2 rfl⟩
theorem sd_or {ea eb : Expr} {r : List Expr} {p : Pos} {a b : P} (ha : SdE G N ea a) (hta : SdT G N ea a) (hb : SdE G N (.BoolOp .Or (eb :: r) p) b) (htb : SdT G N (.BoolOp .Or (eb :: r) p) b) : SdE G N (.BoolOp .Or (ea :: eb :: r) p) (.or a b) ∧ SdT G N (.BoolOp .Or (ea :: eb :: r) p) (.or a b) := by
  constructor
  · intro n hd env m H k x X hw A fl B rest s hA hf R
    refine BoolOp_or (wpAny_mono (ha n hd env m H _ x X hw A fl B rest s hA hf R) ?_ fun _ _ z => z)
    rintro u s1 ⟨h1, tk1, H1, rfl, R1, q⟩
    refine wpAny_mono (truthy_at (x := x) (k := fun t H1 => (t = false → wpE G n hd b m H1 k x) ∧ (t = true → k (abs u) H1)) q A fl B rest _ hA hf R1) ?_ fun _ _ z => z.trans
    rintro t s2 ⟨h2, tk2, H2, rfl, R2, q2⟩
    cases t with
    | false => exact wpAny_mono (hb n hd env m H2 k x X (q2.1 rfl) A fl B rest _ hA hf R2) (fun _ _ z => z.trans.trans) fun _ _ z => z.trans.trans
    | true => exact ⟨h2, tk2, H2, rfl, R2, q2.2 rfl⟩
  · intro n hd env m H k x X hw A fl B rest s hA hf R
    have hw' : wpE G n hd a m H (fun u H1 => wpTruth u fun t => (t = false → wpE G n hd b m H1 (fun u H2 => wpTruth u fun t => k t H2) x) ∧ (t = true → k true H1)) x := wpE_mono hw fun u H1 q => truth_again true _ True q
    refine isTrue_or (wpAny_mono (hta n hd env m H (fun t H1 => (t = false → wpE G n hd b m H1 (fun u H2 => wpTruth u fun t => k t H2) x) ∧ (t = true → k true H1)) x X hw' A fl B rest s hA hf R) ?_ fun _ _ z => z)
    rintro t s1 ⟨h1, tk1, H1, rfl, R1, q⟩
    cases t with
    | false => exact wpAny_mono (htb n hd env m H1 k x X (q.1 rfl) A fl B rest _ hA hf R1) (fun _ _ z => z.trans) fun _ _ z => z.trans
    | true => exact ⟨h1, tk1, H1, rfl, R1, q.2 rfl⟩

theorem sd_cmp {o : Cm} {o' : CmpOp} {ea eb : Expr} {p : Pos} {a b : P} (h : cmRel o o' = true) (hm : behindInMarks o' eb = false) (ha : SdE G N ea a) (hb : SdE G N eb b) : SdE G N (.Compare ea [o'] [eb] p) (.cmp o a b) ∧ SdT G N (.Compare ea [o'] [eb] p) (.cmp o a b) := by
  constructor
  · intro n hd env m H k x X hw A fl B rest s hA hf R
    refine wpAny_Compare1 (((ha n hd env m H _ x X hw).imp fun u H1 q => (hb n hd env m H1 _ x X q).imp (k' := fun v H2 => Ok G n hd env m (compareOp o' u v) H2 (fun r H' => k (abs r) H') x) fun v H2 q2 => (cmp_tree (x := x) (k := fun b H' => k (.bool b) H') h q2).imp fun r H' z => ?_).next2 hA hf R) hm
    obtain ⟨b, rfl, z⟩ := z; exact z
  · intro n hd env m H k x X hw A fl B rest s hA hf R
    refine wpAny_isTrue_Compare1 ?_ hm
    have h2 := (((ha n hd env m H _ x X hw).imp fun u H1 q => (hb n hd env m H1 _ x X q).imp fun v H2 q2 => cmp_tree (x := x) (k := fun b H' => k b H') h q2).next2 hA hf R)
    refine wpAny_mono h2 (fun u s1 z1 => wpAny_mono z1 (fun v s2 z2 => wpAny_mono z2 (fun r s3 z3 => ?_) fun _ _ z => z) fun _ _ z => z) fun _ _ z => z
    obtain ⟨h3, tk3, H3, rfl, R3, b, rfl, q⟩ := z3
    exact truthy_bool' ⟨h3, tk3, H3, rfl, R3, q⟩
theorem sd_cmp2 {o q : Cm} {o' q' : CmpOp} {ea eb ec : Expr} {p : Pos} {a b c : P} (h : cmRel o o' = true) (h' : cmRel q q' = true) (hm : lastMarks [o', q'] [eb, ec] = false) (ha : SdE G N ea a) (hb : SdE G N eb b) (hc : SdE G N ec c) :
    SdE G N (.Compare ea [o', q'] [eb, ec] p) (.cmp2 o q a b c) ∧ SdT G N (.Compare ea [o', q'] [eb, ec] p) (.cmp2 o q a b c) := by
  constructor
  · intro n hd env m H k x X hw A fl B rest s hA hf R
    refine Compare_chain (rs := []) ?_ hm
    refine wpAny_mono (ha n hd env m H _ x X hw A fl B rest s hA hf R) ?_ fun _ _ z => z
    rintro u s1 ⟨h1, tk1, H1, rfl, R1, q1⟩
    refine chain_link (wpAny_mono (hb n hd env m H1 _ x X q1 A fl B rest _ hA hf R1) ?_ fun _ _ z => z.trans)
    rintro v s2 ⟨h2, tk2, H2, rfl, R2, q2⟩
    refine wpAny_mono (cmp_tree (x := x) (k := fun r H2 => (r = false → k (.bool false) H2) ∧ (r = true → wpE G n hd c m H2 (fun t H3 => wpCmp q (abs v) t H3 fun r' => k (.bool r') H3) x)) h q2 A fl B rest _ hA hf R2) ?_ fun _ _ z => z.trans.trans
    rintro r s3 ⟨h3, tk3, H3, rfl, R3, b', rfl, q3⟩
    refine truthy_bool' ?_
    cases b' with
    | false => exact ⟨h3, tk3, H3, rfl, R3, q3.1 rfl⟩
    | true =>
      refine chain_last (wpAny_mono (hc n hd env m H3 _ x X (q3.2 rfl) A fl B rest _ hA hf R3) ?_ fun _ _ z => z.trans.trans.trans)
      rintro w s4 ⟨h4, tk4, H4, rfl, R4, q4⟩
      refine wpAny_mono (cmp_tree (x := x) (k := fun r H' => k (.bool r) H') h' q4 A fl B rest _ hA hf R4) ?_ fun _ _ z => z.trans.trans.trans.trans
      rintro r s5 ⟨h5, tk5, H5, rfl, R5, b5, rfl, q5⟩
      exact ⟨h5, tk5, H5, rfl, R5, q5⟩
  · intro n hd env m H k x X hw A fl B rest s hA hf R
    refine isTrue_chain (rs := []) ?_ hm
    refine wpAny_mono (ha n hd env m H _ x X hw A fl B rest s hA hf R) ?_ fun _ _ z => z
    rintro u s1 ⟨h1, tk1, H1, rfl, R1, q1⟩
    refine test_link (wpAny_mono (hb n hd env m H1 _ x X q1 A fl B rest _ hA hf R1) ?_ fun _ _ z => z.trans)
    rintro v s2 ⟨h2, tk2, H2, rfl, R2, q2⟩
    refine wpAny_mono (cmp_tree (x := x) (k := fun r H2 => (r = false → k false H2) ∧ (r = true → wpE G n hd c m H2 (fun t H3 => wpCmp q (abs v) t H3 fun r' => k r' H3) x)) h q2 A fl B rest _ hA hf R2) ?_ fun _ _ z => z.trans.trans
    rintro r s3 ⟨h3, tk3, H3, rfl, R3, b', rfl, q3⟩
    refine truthy_bool' ?_
    cases b' with
    | false => exact ⟨h3, tk3, H3, rfl, R3, q3.1 rfl⟩
    | true =>
      refine test_last (wpAny_mono (hc n hd env m H3 _ x X (q3.2 rfl) A fl B rest _ hA hf R3) ?_ fun _ _ z => z.trans.trans.trans)
      rintro w s4 ⟨h4, tk4, H4, rfl, R4, q4⟩
      refine wpAny_mono (cmp_tree (x := x) (k := fun r H' => k r H') h' q4 A fl B rest _ hA hf R4) ?_ fun _ _ z => z.trans.trans.trans.trans
      rintro r s5 ⟨h5, tk5, H5, rfl, R5, b5, rfl, q5⟩
      exact truthy_bool' ⟨h5, tk5, H5, rfl, R5, q5⟩

theorem args_nil {k : List V → AHeap → Prop} (h : k [] H) : Args1 G n hd env m [] H k x := ⟨rfl, fun _ => h, fun _ => Ok.pure h⟩
theorem args_cons {e : Expr} {r : List Expr} {k : List V → AHeap → Prop} (hs : noStar [e] = true) (hr : noStar r = true) (h : Ok G n hd env m (eval e env) H (fun v H1 => Args1 G n hd env m r H1 (fun vs H2 => k (abs v :: vs) H2) x) x) : Args1 G n hd env m (e :: r) H k x := by
  have hst : noStar (e :: r) = true := by cases e <;> first | exact hr | cases hs
  refine ⟨hst, fun z => (by cases z), fun pos => ?_⟩
  intro A fl B rest s ha hf R
  rw [backTo_plain hst]
  refine wpAny_bind (wpAny_mono (h A fl B rest s ha hf R) ?_ fun _ _ z => z)
  rintro v s1 ⟨h1, tk1, H1, rfl, R1, q⟩
  have q' := q.ok pos
  rw [backTo_plain hr] at q'
  refine wpAny_bind (wpAny_pure (wpAny_bind (wpAny_holding (wpAny_mono (q' A fl B rest _ ha hf R1) ?_ fun _ _ z => z.trans))))
  rintro vs s2 ⟨h2, tk2, H2, rfl, R2, q2⟩
  exact wpAny_pure ⟨h2, tk2, H2, rfl, R2, q2⟩
end
end Mine
end
section
namespace Mine
open PySem PySem.W PySem.Calls PyProof.Rows

theorem abs_other {v w : Value} (h : abs v = .other w) : v = w := by cases v <;> simp [abs] at h <;> exact h
theorem boot_isinstance : bootBuiltins "isinstance" = some (.builtin "isinstance") := by decide +kernel
theorem boot_ValueError : bootBuiltins "ValueError" = some (.type "ValueError") := by decide +kernel
theorem boot_int : bootBuiltins "int" = some (.type "int") := by decide +kernel
theorem boot_bool : bootBuiltins "bool" = some (.type "bool") := by decide +kernel
theorem boot_list : bootBuiltins "list" = some (.type "list") := by decide +kernel
theorem boot_tuple : bootBuiltins "tuple" = some (.type "tuple") := by decide +kernel
theorem boot_bi {f : Str} {fv : Value} (h : biVal f = some fv) : f ∈ biNames ∧ bootBuiltins f = some fv ∧ ((∃ i, fv = .builtin i) ∨ ∃ T, fv = .type T) := by
  unfold biVal at h
  split at h
  · rename_i e; subst e; cases h; exact ⟨by decide, by decide +kernel, .inl ⟨_, rfl⟩⟩
  split at h
  · rename_i e; subst e; cases h; exact ⟨by decide, by decide +kernel, .inl ⟨_, rfl⟩⟩
  split at h
  · rename_i e; subst e; cases h; exact ⟨by decide, by decide +kernel, .inl ⟨_, rfl⟩⟩
  split at h
  · rename_i e; subst e; cases h; exact ⟨by decide, by decide +kernel, .inl ⟨_, rfl⟩⟩
  split at h
  · rename_i e; subst e; cases h; exact ⟨by decide, by decide +kernel, .inl ⟨_, rfl⟩⟩
  split at h
  · rename_i e; subst e; cases h; exact ⟨by decide, by decide +kernel, .inr ⟨_, rfl⟩⟩
  split at h
  · rename_i e; subst e; cases h; exact ⟨by decide, by decide +kernel, .inr ⟨_, rfl⟩⟩
  · cases h

section
variable {G : Gd} {N : Names} {n : Nat} {hd : Bool} {env : Env} {m : AMap} {H : AHeap} {x : XE}

/-- the name of a call, then the call -/
theorem call_named {f : Expr} {es : List Expr} {p : Pos} {k : V → AHeap → Prop} (he : eval (.Call f es [] p) env = (do callWith p (← eval f env) [] (backTo p (starEach es env)) (backToKw p (keywordEach [] env))))
    (h : Ok G n hd env m (eval f env) H (fun fv H1 => Ok G n hd env m (callWith p fv [] (backTo p (starEach es env)) []) H1 (fun v => k (abs v)) x) x) : Ok G n hd env m (eval (.Call f es [] p) env) H (fun v => k (abs v)) x :=
  fun _ _ _ _ _ hA hf R => Call_ (h.next hA hf R) he

theorem sd_bi {f : Str} {np p : Pos} {es : List Expr} {as : P} (h1 : N.lookup f = some .globalImplicit) (h2 : (biVal f).isSome = true) (ha : SdL G N es as) : SdE G N (.Call (.Name f np) es [] p) (.bi f as) := by
  intro n hd env m H k x X hw
  obtain ⟨fv, hfv⟩ := Option.isSome_iff_exists.mp h2
  obtain ⟨b1, b2, b3⟩ := boot_bi hfv
  refine call_named rfl (ok_bi X h1 b1 b2 ?_)
  refine callWith_bi_ok b3 ((ha n hd env m H _ x X hw).mono fun vs H1 q ws hw => ?_)
  obtain ⟨fv', e, q⟩ := bi_ok (G := G) (n := n) (env := env) (m := m) (x := x) q hw
  rw [hfv] at e; cases e
  exact q
theorem sd_call {f : Str} {np p : Pos} {es : List Expr} {as : P} (h1 : N.lookup f = some .globalImplicit) (h2 : (f == ("__debug__" : Str)) = false) (ha : SdL G N es as) : SdE G N (.Call (.Name f np) es [] p) (.call f as) := by
  intro n hd env m H k x X hw
  obtain ⟨rfl, n', fa, ⟨rfl, e1, e2⟩, hw⟩ := hw
  refine call_named rfl (ok_glob (by rw [X.kind]; exact h1) e1 h2 ?_)
  exact callWith_ok (first := []) e2 ((ha _ _ env m H _ x X hw).mono fun vs H1 q ws hw => call_ok q (Nat.le_succ _) hw)
theorem sd_make {f : Str} {np p : Pos} {es : List Expr} {as : P} (h1 : N.lookup f = some .globalImplicit) (h2 : (f == ("__debug__" : Str)) = false) (ha : SdL G N es as) : SdE G N (.Call (.Name f np) es [] p) (.make f as) := by
  intro n hd env m H k x X hw
  obtain ⟨rfl, n', C, fa, hp, hw⟩ := hw
  obtain ⟨e0, e1, e2, e3, e4, e5, e6, e7⟩ := hp
  refine call_named rfl (ok_glob (by rw [X.kind]; exact h1) e2 h2 ?_)
  exact callWith_ok (first := []) e4 ((ha _ _ env m H _ x X hw).mono fun vs H1 q ws hw => make_ok ⟨e0, e1, e2, e3, e4, e5, e6, e7⟩ q hw)
theorem sd_meth {o : Expr} {f : Str} {ap p : Pos} {es : List Expr} {a as : P} (h1 : plainBase o = true) (h2 : decide (es.length < 30) = true) (h3 : (ap.endLine == p.line) = true) (hst : noStar es = true) (ho : SdE G N o a) (ha : SdL G N es as) : SdE G N (.Call (.Attribute o f ap) es [] p) (.meth a f as) := by
  intro n hd env m H k x X hw
  obtain ⟨rfl, hw⟩ := hw
  refine meth_ok h1 (of_decide_eq_true h2) h3 hst ((ho _ _ env m H _ x X hw).imp fun u H1 q => ⟨q.1, ?_⟩)
  exact ha _ _ env m H1 _ x X q.2
theorem sd_attr {y f : Str} {yp p : Pos} {a : P} (ho : SdE G N (.Name y yp) a) : SdE G N (.Attribute (.Name y yp) f p) (.attr a f) := by
  intro n hd env m H k x X hw A fl B rest s hA hf R
  exact Attribute_name (((ho n hd env m H _ x X hw).imp (k' := fun u H1 => Ok G n hd env m (getAttr u f true) H1 (fun v => k (abs v)) x) fun u H1 q => attr_ok q rfl).next hA hf R)
theorem sd_sub {o i : Expr} {p : Pos} {a b : P} (h1 : notSlice i = true) (ho : SdE G N o a) (hi : SdE G N i b) : SdE G N (.Subscript o i p) (.sub a b) := by
  intro n hd env m H k x X hw A fl B rest s hA hf R
  exact Subscript_ (((ho n hd env m H _ x X hw).imp fun u H1 q => (hi n hd env m H1 _ x X q).imp fun v H2 q2 => sub_ok h1 q2 rfl rfl).next2 hA hf R)
theorem sd_list {es : List Expr} {p : Pos} {as : P} (ha : SdL G N es as) : SdE G N (.List es p) (.list as) := by
  intro n hd env m H k x X hw A fl B rest s hA hf R
  refine List_ (((ha n hd env m H _ x X hw).ok p).imp (k' := fun ws H1 => Ok G n hd env m (newList ws) H1 (fun v => k (abs v)) x) (fun ws H1 q => list_new_ok rfl q.1 q.2) |>.next hA hf R)
theorem sd_tup {es : List Expr} {kk : Nat} {p : Pos} {as : P} (ha : SdL G N es as) : SdE G N (.Tuple es kk p) (.tup as) := by
  intro n hd env m H k x X hw A fl B rest s hA hf R
  refine Tuple_ (((ha n hd env m H _ x X hw).ok p).imp (k' := fun ws H1 => Ok G n hd env m (newTuple ws) H1 (fun v => k (abs v)) x) (fun ws H1 q => tup_new_ok rfl q.1 q.2) |>.next hA hf R)

theorem noStar_cons {e : Expr} {r : List Expr} (h : noStar [e] = true) (hr : noStar r = true) : noStar (e :: r) = true := by cases e <;> first | exact hr | cases h
end
end Mine
end
section
namespace Mine
open PySem PySem.W PySem.Calls PyProof.Rows

section
variable {G : Gd} {N : Names} {n : Nat} {hd : Bool} {env : Env} {m : AMap} {H : AHeap} {x : XE}

theorem isx_any {a : Addr} {d : Str} {cv : Value} {k : Bool → AHeap → Prop} (hH : H a = some (.exc d)) (hc : ∀ C, clsAddr G.K d = some C → d ∈ excNames → kitCls G.K (.ref C) cv = some true) (h : k true H) :
    Ok G n hd env m (call (.builtin "isinstance") [.ref a, cv]) H (fun r H' => ∃ b, r = .bool b ∧ k b H') x := by
  intro A fl B rest s ha hf R
  obtain ⟨x1, C', oe, vs, x2, x3, x4, x5, x6, x7⟩ := R.obj _ _ hH
  exact isx_ok hH x2 (hc _ x2 x7) h A fl B rest s ha hf R
theorem is_cls {u : Value} {c : Str} {cp : Pos} {k : V → AHeap → Prop} (X : EnvK N env) (h2 : N.lookup c = some .globalImplicit) (q : wpIs G (abs u) c H fun r => k (.bool r) H) : ∃ cv, (∀ kk : Value → AHeap → Prop, kk cv H → Ok G n hd env m (eval (.Name c cp) env) H kk x) ∧ (∀ w, abs w = abs cv → w = cv) ∧
    ∀ u', abs u' = abs u → Ok G n hd env m (call (.builtin "isinstance") [u', cv]) H (fun v => k (abs v)) x := by
  have fin : ∀ {u' cv}, Ok G n hd env m (call (.builtin "isinstance") [u', cv]) H (fun r H' => ∃ b, r = .bool b ∧ k (.bool b) H') x → Ok G n hd env m (call (.builtin "isinstance") [u', cv]) H (fun v => k (abs v)) x :=
    fun h => h.imp fun r H' z => by obtain ⟨b, rfl, z⟩ := z; exact z
  by_cases hx : ∃ a d, abs u = .ref a ∧ H a = some (.exc d)
  · obtain ⟨a, d, e1, e2⟩ := hx
    unfold wpIs at q
    rw [e1] at q
    simp only [e2] at q
    obtain ⟨hc, hsub, q⟩ := q
    rcases hc with rfl | hc
    · refine ⟨.type "ValueError", fun kk hk => ok_bi X h2 (by decide) boot_ValueError hk, fun w hw => abs_other hw, fun u' hu => fin ?_⟩
      rw [e1] at hu
      obtain rfl := abs_ref hu
      exact isx_any (k := fun b H' => k (.bool b) H') e2 (fun C hC hm => (G.exc hm hC).2.1) q
    · obtain ⟨hcm, D, hD, hns⟩ := excOk_of hc
      have hcd : (c == ("__debug__" : Str)) = false := by rw [beq_eq_false_iff_ne]; rintro rfl; revert hcm; decide
      refine ⟨.ref D, fun kk hk => ok_glob (by rw [X.kind]; exact h2) hns hcd hk, fun w hw => abs_ref hw, fun u' hu => fin ?_⟩
      rw [e1] at hu
      obtain rfl := abs_ref hu
      exact isx_any (k := fun b H' => k (.bool b) H') e2 (fun C hC hm => by rw [((G.exc hm hC).2.2.2 c D hcm hD).2, hsub]) q
  · have hne : ∀ d, abs u ≠ .ref d ∨ ∀ e, H d ≠ some (.exc e) := by
      intro d
      by_cases q1 : abs u = .ref d
      · right; intro e q2; exact hx ⟨d, e, q1, q2⟩
      · left; exact q1
    obtain ⟨T, rfl, hT, _⟩ := is_ok (G := G) (n := n) (hd := hd) (env := env) (m := m) (x := x) (u' := u) (k := fun b H' => k (.bool b) H') q rfl hne
    have boot : (T : Str) ∈ biNames ∧ bootBuiltins T = some (.type T) := by
      rcases hT with rfl | rfl | rfl | rfl
      · exact ⟨by decide, boot_int⟩
      · exact ⟨by decide, boot_bool⟩
      · exact ⟨by decide, boot_list⟩
      · exact ⟨by decide, boot_tuple⟩
    refine ⟨.type T, fun kk hk => ok_bi X h2 boot.1 boot.2 hk, fun w hw => abs_other hw, fun u' hu => fin ?_⟩
    obtain ⟨T', e, hT', h⟩ := is_ok (G := G) (n := n) (hd := hd) (env := env) (m := m) (x := x) (u' := u') (k := fun b H' => k (.bool b) H') q hu hne
    have : T' = T := by
      rcases hT with rfl | rfl | rfl | rfl <;> rcases hT' with rfl | rfl | rfl | rfl <;> first | rfl | (exfalso; revert e; decide)
    subst this
    exact h
theorem sd_isinst {np p cp : Pos} {ea : Expr} {c : Str} {a : P} (h1 : N.lookup ("isinstance" : Str) = some .globalImplicit) (h2 : N.lookup c = some .globalImplicit) (hs : noStar [ea] = true) (ha : SdE G N ea a) : SdE G N (.Call (.Name "isinstance" np) [ea, .Name c cp] [] p) (.isinst a c) := by
  intro n hd env m H k x X hw
  refine call_named rfl (ok_bi X h1 (by decide) boot_isinstance ?_)
  refine callWith_bi_ok (.inl ⟨_, rfl⟩) (args_cons hs rfl ((ha n hd env m H _ x X hw).imp fun u H1 q => ?_))
  obtain ⟨cv, c1, c2, c3⟩ := is_cls (n := n) (hd := hd) (m := m) (x := x) (cp := cp) X h2 q
  refine args_cons rfl rfl (c1 _ (args_nil fun ws hw => ?_))
  obtain ⟨u', cv', rfl, e1, e2⟩ : ∃ u' cv', ws = [u', cv'] ∧ abs u' = abs u ∧ abs cv' = abs cv := by
    cases ws with
    | nil => simp at hw
    | cons w1 r => cases r with
      | nil => simp at hw
      | cons w2 r => cases r with
        | nil => simp at hw; exact ⟨w1, w2, rfl, hw.1, hw.2⟩
        | cons _ _ => simp at hw
  obtain rfl := c2 _ e2
  exact c3 u' e1

/-- the turn of a comprehension -/
theorem tests0 {cenv : Env} {mc : AMap} {H' : AHeap} {k : Bool → AHeap → Prop} (h : k true H') : Ok G n hd cenv mc (forIn ([] : List Expr) true fun c r => if r = true then do let ok ← isTrue c cenv (eval c cenv); pure (ForInStep.yield ok) else pure (ForInStep.yield r)) H' k x := Ok.pure h
theorem tests1 {cenv : Env} {mc : AMap} {H' : AHeap} {c : Expr} {k : Bool → AHeap → Prop} (h : Ok G n hd cenv mc (isTrue c cenv (eval c cenv)) H' k x) : Ok G n hd cenv mc (forIn [c] true fun c r => if r = true then do let ok ← isTrue c cenv (eval c cenv); pure (ForInStep.yield ok) else pure (ForInStep.yield r)) H' k x := by
  intro A fl B rest s ha hf R
  rw [List.forIn_cons, if_pos rfl]
  refine wpAny_bind (wpAny_bind (wpAny_mono (h A fl B rest s ha hf R) (fun b s1 z => wpAny_pure ?_) fun _ _ z => z))
  dsimp only
  rw [List.forIn_nil]
  exact wpAny_pure z

noncomputable def TestsOk (G : Gd) (N : Names) (ifs : List Expr) (q : P) : Prop := ∀ n hd cenv mc H' (k : Bool → AHeap → Prop) x, EnvK N cenv → wpE G n hd q mc H' (fun t H2 => wpTruth t fun b => k b H2) x → Ok G n hd cenv mc (forIn ifs true fun c r => if r = true then do let ok ← isTrue c cenv (eval c cenv); pure (ForInStep.yield ok) else pure (ForInStep.yield r)) H' k x
theorem testsOk0 : TestsOk G N [] (.const (.bool true)) := fun _ _ _ _ _ _ _ _ h => tests0 h
theorem testsOk1 {c : Expr} {q : P} (h : SdT G N c q) : TestsOk G N [c] q := fun n hd cenv mc H' k x X hw => tests1 (h n hd cenv mc H' k x X hw)

theorem src_list {iter elt : Expr} {ifs : List Expr} {scope : Scope} {y : Str} {fv : List Str} {it e q : P} {k : V → AHeap → Prop} {A : Around} {fl : List Env} {B : Addr → Option Obj} {rest : List (Env × AMap)} {s : Shared} (X : EnvK N env) (hi : SdE G N iter it) (he : SdE G (relN N scope.names) elt e) (hq : TestsOk G (relN N scope.names) ifs q)
    (hw : wpE G n hd (.comp false e y fv it q) m H k x) (hA : AOk A hd n fl) (hf : FlOk fl ((env, m) :: rest)) (R : Rep G B ((env, m) :: rest) H s.heap) :
    wpAny (model G.prog G.w) A (eval iter env) (fun v s1 => wpAny (model G.prog G.w) A (pyIter v) (CompSrcs G n hd A env m N B rest elt ifs scope y fv k s) (XPost G B fl ((env, m) :: rest) s x) s1) (XPost G B fl ((env, m) :: rest) s x) s := by
  obtain ⟨rfl, hw⟩ := hw
  refine wpAny_mono (hi n false env m H _ x X hw A fl B rest s hA hf R) ?_ fun _ _ z => z
  rintro u s1 ⟨h1, tk1, H1, rfl, R1, a, vs, e1, e2, I, hI0, hstep, hend⟩
  obtain rfl := abs_ref e1
  obtain ⟨_, x2, ws, nn, x3, x4⟩ := R1.obj _ _ e2
  refine wpAny_pyIter_list (s := { s with heap := h1, toks := tk1 }) ⟨_, x3, rfl, nn, rfl⟩ ?_
  have R2 := R1.pushB { cls := .type "list_iterator", data := .fields #[.ref a, .int 0 0] } rfl
  refine ⟨h1.objs.size, _, _, tk1, H1, vs.length, fun i => vs.getD i .none, _, _, fun i ys H' => I i ys H', rfl, rfl, R2, R1.freshB (Nat.le_refl _), iter_list (a := a) (hA.handled rfl), ⟨rfl, rfl⟩, hI0, x2, fun cenv Xc i ys H' hi' hJ => ?_, fun ys H' hJ => hend ys H' hJ⟩
  have hv : vs[i]? = some (vs.getD i .none) := by rw [List.getD_eq_getElem?_getD, List.getElem?_eq_getElem hi']; rfl
  obtain ⟨z1, z2, z3⟩ := hstep i _ ys H' hv hJ
  refine ⟨z1, z2, hq n false cenv _ H' _ _ Xc (wpE_mono z3 fun t H2 z => wpTruth_mono z fun b z => ⟨fun hb => ?_, fun hb => z.2 hb⟩)⟩
  exact he n false cenv _ H2 _ _ Xc (z.1 hb)
theorem fold_plain {it : Expr} (h : plainIter it = true) (v : Value) : foldedSetIterable it env v = pure v := by cases it <;> first | rfl | cases h
end
end Mine
end
section
namespace Mine
open PySem PySem.W PySem.Calls PyProof.Rows

section
variable {G : Gd} {N : Names} {n : Nat} {hd : Bool} {env : Env} {m : AMap} {H : AHeap}

theorem SOk.mono {t : Sem Flow} {kn kn' : AMap → AHeap → Prop} {kr kr' : V → AHeap → Prop} {x x' : XS} (h : SOk G n hd env t m H kn kr x) (h1 : ∀ m' H', kn m' H' → kn' m' H') (h2 : ∀ v H', kr v H' → kr' v H') (h3 : ∀ c m' H', x c m' H' → x' c m' H') : SOk G n hd env t m H kn' kr' x' := by
  intro A outer B rest s ha hf R
  refine wpAny_mono (h A outer B rest s ha hf R) ?_ ?_
  · rintro f s1 ⟨h', tk, H', m', e, R', q⟩
    refine ⟨h', tk, H', m', e, R', ?_⟩
    cases f with
    | next => exact h1 _ _ q
    | ret v => exact h2 _ _ q
    | brk => exact q
    | cont => exact q
  · rintro e s1 ⟨h', tk, H', m', a, c, e1, e2, R', Y, q⟩
    exact ⟨h', tk, H', m', a, c, e1, e2, R', Y, h3 _ _ _ q⟩
theorem sw_false {e : Expr} {t : Expr} {line : Nat} (h : isComp e = false) : swapsWith e (some t) line env = pure false := by cases e <;> first | rfl | cases h
theorem sw_none {e : Expr} {line : Nat} (h : isComp e = false) : swapsWith e none line env = pure false := by cases e <;> first | rfl | cases h
theorem sw_comp {elt : Expr} {gens : List Comprehension} {scope : Scope} {p pz : Pos} {z : Str} {line : Nat} (X : EnvK N env) : swapsWith (.ListComp elt gens scope p) (some (.Name z pz)) line env = pure (swapB N scope p z pz) := by
  have hb : env.blockKind = .function := by unfold Env.blockKind; rw [X.fn]; rfl
  show (pure (env.blockKind == .function && env.kindOf z == some .local && pz.line == p.line && !(scope.names.any fun (n, k) => n == z && (k == .local || k == .cell))) : Sem Bool) = _
  rw [hb, X.kind z]
  rfl

theorem sd_comp {elt iter : Expr} {ifs : List Expr} {scope : Scope} {y : Str} {px pos : Pos} {fv : List Str} {p : P} (hc : compOk N scope y fv = true) (hfold : ∀ env v, foldedSetIterable iter env v = pure v)
    (hsrc : ∀ {n : Nat} {hd : Bool} {env : Env} {m : AMap} {H : AHeap} {k : V → AHeap → Prop} {x : XE} {A : Around} {fl : List Env} {B : Addr → Option Obj} {rest : List (Env × AMap)} {s : Shared}, EnvK N env → wpE G n hd p m H k x → AOk A hd n fl → FlOk fl ((env, m) :: rest) → Rep G B ((env, m) :: rest) H s.heap →
      wpAny (model G.prog G.w) A (eval iter env) (fun v s1 => wpAny (model G.prog G.w) A (pyIter v) (CompSrcs G n hd A env m N B rest elt ifs scope y fv k s) (XPost G B fl ((env, m) :: rest) s x) s1) (XPost G B fl ((env, m) :: rest) s x) s) :
    SdE G N (.ListComp elt [⟨.Name y px, iter, ifs, 0⟩] scope pos) p := by
  intro n hd env m H k x X hw A fl B rest s hA hf R
  exact comp_ok X hc (hfold env) hA hf R (hsrc X hw hA hf R)
/-- a comprehension, as a source for a name -/
noncomputable def SrcOk (G : Gd) (N : Names) (e : Expr) (p : P) : Prop := match e with
  | .ListComp elt gens scope pos => ∀ (z : Str) (pz spos : Pos) (n : Nat) (hd : Bool) (env : Env) (m : AMap) (H : AHeap) (kn : AMap → AHeap → Prop) (kr : V → AHeap → Prop) (x : XS), EnvS N env → storable N z = true → swapB N scope pos z pz = true → wpE G n hd p m H (fun v H1 => kn (m.set z v) H1) (fun c => x c m) →
      SOk G n hd env (exec (.Assign [.Name z pz] (.ListComp elt gens scope pos) spos) env) m H kn kr x
  | _ => True
theorem src_comp {elt iter : Expr} {ifs : List Expr} {scope : Scope} {y : Str} {px pos : Pos} {fv : List Str} {p : P} (hc : compOk N scope y fv = true) (hfold : ∀ env v, foldedSetIterable iter env v = pure v)
    (hsrc : ∀ {n : Nat} {hd : Bool} {env : Env} {m : AMap} {H : AHeap} {k : V → AHeap → Prop} {x : XE} {A : Around} {fl : List Env} {B : Addr → Option Obj} {rest : List (Env × AMap)} {s : Shared}, EnvK N env → wpE G n hd p m H k x → AOk A hd n fl → FlOk fl ((env, m) :: rest) → Rep G B ((env, m) :: rest) H s.heap →
      wpAny (model G.prog G.w) A (eval iter env) (fun v s1 => wpAny (model G.prog G.w) A (pyIter v) (CompSrcs G n hd A env m N B rest elt ifs scope y fv k s) (XPost G B fl ((env, m) :: rest) s x) s1) (XPost G B fl ((env, m) :: rest) s x) s) :
    SrcOk G N (.ListComp elt [⟨.Name y px, iter, ifs, 0⟩] scope pos) p := by
  intro z pz spos n hd env m H kn kr x X hz hsw hw A outer B rest s hA hf R
  refine comp_assign_ok X hc (hfold env) hA hf R hz ((sw_comp X.toEnvK).trans (by rw [hsw])) ?_
  refine wpAny_mono (hsrc X.toEnvK hw hA hf R) (fun v s1 h1 => wpAny_mono h1 (fun _ _ z => z) fun _ _ z => SX.of z) fun _ _ z => SX.of z

/-- what a tree tells; of a comprehension also how a name takes it -/
noncomputable def Sx (G : Gd) (N : Names) : Node → P → Prop
  | .E e, p => Sd G N (.E e) p ∧ SrcOk G N e p
  | nd, p => Sd G N nd p
theorem Sx.plain {e : Expr} {p : P} (hc : isComp e = false) (h : Sd G N (.E e) p) : Sx G N (.E e) p := ⟨h, by cases e <;> first | trivial | cases hc⟩

theorem sound {nd : Node} {p : P} (h : Tr N nd p) : Sx G N nd p := by
  induction h with
  | cInt => exact Sx.plain rfl (T_of (fun _ _ => rfl) fun n hd env m H k x X hw => ok_const (.inl ⟨_, rfl, rfl⟩) hw)
  | cStr => exact Sx.plain rfl (T_of (fun _ _ => rfl) fun n hd env m H k x X hw => ok_const (.inr (.inl ⟨_, rfl, rfl⟩)) hw)
  | cBool => exact Sx.plain rfl (T_of (fun _ _ => rfl) fun n hd env m H k x X hw => ok_const (.inr (.inr (.inl ⟨_, rfl, rfl⟩))) hw)
  | cNone => exact Sx.plain rfl (T_of (fun _ _ => rfl) fun n hd env m H k x X hw => ok_const (.inr (.inr (.inr ⟨rfl, rfl⟩))) hw)
  | name h1 h2 => exact Sx.plain rfl (T_of (fun _ _ => rfl) fun n hd env m H k x X hw => by obtain ⟨v, e, q⟩ := hw; exact ok_name e q h1 h2)
  | glob h1 h2 => exact Sx.plain rfl (T_of (fun _ _ => rfl) fun n hd env m H k x X hw => by obtain ⟨i, t, e, q⟩ := hw; exact ok_glob (by rw [X.kind]; exact h2) e h1 q)
  | bin h _ _ iha ihb => exact Sx.plain rfl (T_of (fun _ _ => rfl) (sd_bin h iha.1.1 ihb.1.1))
  | neg _ iha => exact Sx.plain rfl (T_of (fun _ _ => rfl) (sd_neg iha.1.1))
  | not _ iha => exact Sx.plain rfl (sd_not iha.1.1 iha.1.2)
  | one _ iha => exact Sx.plain rfl (sd_one iha.1.1 iha.1.2)
  | and _ _ iha ihb => exact Sx.plain rfl (sd_and iha.1.1 iha.1.2 ihb.1.1 ihb.1.2)
  | or _ _ iha ihb => exact Sx.plain rfl (sd_or iha.1.1 iha.1.2 ihb.1.1 ihb.1.2)
  | cmp h hm _ _ iha ihb => exact Sx.plain rfl (sd_cmp h hm iha.1.1 ihb.1.1)
  | cmp2 h h' hm _ _ _ iha ihb ihc => exact Sx.plain rfl (sd_cmp2 h h' hm iha.1.1 ihb.1.1 ihc.1.1)
  | isinst h1 h2 hs _ iha => exact Sx.plain rfl (T_of (fun _ _ => rfl) (sd_isinst h1 h2 hs iha.1.1))
  | bi h1 h2 _ ih => exact Sx.plain rfl (T_of (fun _ _ => rfl) (sd_bi h1 h2 ih.2))
  | call h1 h2 _ ih => exact Sx.plain rfl (T_of (fun _ _ => rfl) (sd_call h1 h2 ih.2))
  | make h1 h2 _ ih => exact Sx.plain rfl (T_of (fun _ _ => rfl) (sd_make h1 h2 ih.2))
  | meth h1 h2 h3 _ _ iho ih => exact Sx.plain rfl (T_of (fun _ _ => rfl) (sd_meth h1 h2 h3 ih.1 iho.1.1 ih.2))
  | attr _ iho => exact Sx.plain rfl (T_of (fun _ _ => rfl) (sd_attr iho.1.1))
  | sub h1 _ _ iho ihi => exact Sx.plain rfl (T_of (fun _ _ => rfl) (sd_sub h1 iho.1.1 ihi.1.1))
  | slice _ _ _ iho ihl ihh =>
    refine Sx.plain rfl (T_of (fun _ _ => rfl) fun n hd env m H k x X hw => slice_ok ((iho.1.1 n hd env m H _ x X hw).imp fun u H1 q => (ihl n hd env m H1 _ x X q).imp fun l H2 q2 => ihh n hd env m H2 _ x X q2))
  | list _ ih => exact Sx.plain rfl (T_of (fun _ _ => rfl) (sd_list ih.2))
  | tup _ ih => exact Sx.plain rfl (T_of (fun _ _ => rfl) (sd_tup ih.2))
  | comp0 h1 h2 _ _ ihe ihi => exact ⟨T_of (fun _ _ => rfl) (sd_comp h1 (fun env v => fold_plain h2 v) fun X hw hA hf R => src_list X ihi.1.1 ihe.1.1 testsOk0 hw hA hf R), src_comp h1 (fun env v => fold_plain h2 v) fun X hw hA hf R => src_list X ihi.1.1 ihe.1.1 testsOk0 hw hA hf R⟩
  | comp1 h1 h2 _ _ _ ihe ihi ihq => exact ⟨T_of (fun _ _ => rfl) (sd_comp h1 (fun env v => fold_plain h2 v) fun X hw hA hf R => src_list X ihi.1.1 ihe.1.1 (testsOk1 ihq.1.2) hw hA hf R), src_comp h1 (fun env v => fold_plain h2 v) fun X hw hA hf R => src_list X ihi.1.1 ihe.1.1 (testsOk1 ihq.1.2) hw hA hf R⟩
  | oNone => exact fun n hd env m H k x X hw => Ok.pure hw
  | oSome _ ih => exact fun n hd env m H k x X hw => ih.1.1 n hd env m H k x X hw
  | lNil => exact ⟨rfl, fun n hd env m H k x X hw => args_nil hw⟩
  | lCons hs _ _ ih ihr => exact ⟨noStar_cons hs ihr.1, fun n hd env m H k x X hw => args_cons hs ihr.1 ((ih.1.1 n hd env m H _ x X hw).imp fun v H1 q => ihr.2 n hd env m H1 _ x X q)⟩
  | ssNil => exact fun n hd env m H kn kr x X hw => SOk.nil hw
  | ssCons _ _ ih ihr => exact fun n hd env m H kn kr x X hw => SOk.cons ((ih n hd env m H _ kr x X hw).mono (fun m' H' q => ihr n hd env m' H' kn kr x X q) (fun _ _ z => z) fun _ _ _ z => z)
  | assign h1 h2 _ ih => exact fun n hd env m H kn kr x X hw => assign_ok X h1 (sw_false h2) (ih.1.1 n hd env m H _ _ X.toEnvK hw)
  | assignC h1 h2 _ ih => exact fun n hd env m H kn kr x X hw => assign_ok X h1 ((sw_comp X.toEnvK).trans (by rw [h2])) (ih.1.1 n hd env m H _ _ X.toEnvK hw)
  | assignS h1 h2 _ ih => exact fun n hd env m H kn kr x X hw => ih.2 _ _ _ n hd env m H kn kr x X h1 h2 hw
  | setAttr h2 _ _ iho ih => exact fun n hd env m H kn kr x X hw => setAttr_stmt (sw_false h2) ((ih.1.1 n hd env m H _ _ X.toEnvK hw).imp fun v H1 q => (iho.1.1 n hd env m H1 _ _ X.toEnvK q))
  | setItem h2 _ _ _ iho ihi ih => exact fun n hd env m H kn kr x X hw => setItem_stmt (sw_false h2) ((ih.1.1 n hd env m H _ _ X.toEnvK hw).imp fun v H1 q => (iho.1.1 n hd env m H1 _ _ X.toEnvK q).imp fun u H2 q2 => ihi.1.1 n hd env m H2 _ _ X.toEnvK q2)
  | expr h2 _ ih => exact fun n hd env m H kn kr x X hw => expr_ok (sw_none h2) (by unfold interactive; rw [X.fn]; rfl) (ih.1.1 n hd env m H (fun _ H1 => kn m H1) _ X.toEnvK hw)
  | ite _ _ _ ih ihb iho => exact fun n hd env m H kn kr x X hw => if_ok ((ih.1.2 n hd env m H _ _ X.toEnvK hw).imp fun r H1 q => ⟨fun e => ihb n hd env m H1 kn kr x X (q.1 e), fun e => iho n hd env m H1 kn kr x X (q.2 e)⟩)
  | forL h1 h2 _ _ ih ihb =>
    intro n hd env m H kn kr x X hw
    obtain ⟨rfl, hw⟩ := hw
    refine forList_ok X h1 (fold_plain h2) ((ih.1.1 n false env m H _ _ X.toEnvK hw).imp fun u H1 q => ?_)
    obtain ⟨a, vs, e1, e2, I, q1, q2, q3⟩ := q
    exact ⟨a, vs, e1, e2, I, q1, fun i v m' H' hv hI => ⟨(q2 i v m' H' hv hI).1, ihb n false env _ H' _ kr x X (q2 i v m' H' hv hI).2⟩, q3⟩
  | forT h1 h3 h2 _ _ ih ihb =>
    intro n hd env m H kn kr x X hw
    obtain ⟨rfl, hw⟩ := hw
    refine forListT_ok X h1 h3 (fold_plain h2) ((ih.1.1 n false env m H _ _ X.toEnvK hw).imp fun u H1 q => ?_)
    obtain ⟨a, vs, e1, e2, I, q1, q2, q3⟩ := q
    refine ⟨a, vs, e1, e2, I, q1, fun i v m' H' hv hI => ?_, q3⟩
    obtain ⟨z1, c, p, q, z2, z3, z4⟩ := q2 i v m' H' hv hI
    exact ⟨z1, c, p, q, z2, z3, ihb n false env _ H' _ kr x X z4⟩
  | forR h1 h2 _ _ ih ihb =>
    intro n hd env m H kn kr x X hw
    obtain ⟨rfl, hw⟩ := hw
    refine forRange_ok X h1 h2 ((ih.2 n false env m H _ _ X.toEnvK hw).mono fun us H1 q => ?_)
    obtain ⟨p, q', c, e1, e2, e3, I, q1, q2, q3⟩ := q
    exact ⟨p, q', c, e1, e2, e3, I, q1, fun i m' H' hi hI => ihb n false env _ H' _ kr x X (q2 i m' H' hi hI), q3⟩
  | «while» _ _ ih ihb =>
    intro n hd env m H kn kr x X hw
    obtain ⟨rfl, I, j, h0, hstep⟩ := hw
    exact while_ok I j h0 fun j m' H' hI => (ih.1.2 n false env m' H' _ _ X.toEnvK (hstep j m' H' hI)).imp fun r H2 q => ⟨fun e => ihb n false env m' H2 _ kr x X (q.1 e), fun e => q.2 e⟩
  | ret _ ih => exact fun n hd env m H kn kr x X hw => ret_ok (ih.1.1 n hd env m H kr _ X.toEnvK hw)
  | raise h1 =>
    intro n hd env m H kn kr x X hw
    obtain ⟨rfl, h2, h3⟩ := hw
    exact raise_ok X.toEnvK h1 h2 (args_cons rfl rfl (ok_const (v := .str _) (k := fun v H1 => Args1 G n false env m [] H1 (fun vs H2 => (v :: vs).length ≤ 1000 ∧ x _ m H2) fun c => x c m) (.inr (.inl ⟨_, rfl, rfl⟩)) (args_nil ⟨by simp, h3⟩)))
  | tryE _ _ ihb ihh =>
    intro n hd env m H kn kr x X hw
    obtain ⟨rfl, hw⟩ := hw
    exact try_ok ((ihb n false env m H kn kr _ X hw).mono (fun _ _ z => z) (fun _ _ z => z) fun c m' H' q => ihh n env c m' H' kn kr x X q)
  | hNil => exact fun n env c m H kn kr x X hw => HOk.nil hw
  | @hCons N c0 np nm b0 b pos hs a d h1 h2 _ _ ihb ihr =>
    intro n env c m H kn kr x X hw
    obtain ⟨e1, e2, e3⟩ := hw
    refine HOk.cons X h1 e1 h2 (fun hb => ?_) fun hb => ihr n env c m H kn kr x X (e3 hb)
    have e2 := e2 hb
    cases nm with
    | none => exact ihb n true env m H kn kr _ X e2
    | some y => exact fun a ha => ihb n true env _ _ _ kr _ X (e2 a ha)
end
end Mine
end
section
namespace Mine
open PySem PySem.W PySem.Calls PyProof.Rows

/-- what the record of a def says -/
structure FnAt (K : Frag) (fa : Addr) (body : List Stmt) (names : Names) (params : List Str) : Prop where
  ex : ∃ cls dict fd sl, K.lookup fa = some ⟨cls, dict, .func fd, sl⟩ ∧ fd.body = .stmts body ∧ fd.scope.names = names ∧ fd.scope.kind = .function ∧ fd.scope.isCoroutine = false ∧ fd.scope.isGenerator = false ∧ fd.closure = [] ∧
    codeIn K fd.code fd.qualname = true ∧ fd.globals = mainGlobals ∧ fd.builtins = builtinsNs ∧ ∀ vals : List Value, vals.length = params.length → bindArgs fd ⟨vals, []⟩ = pure (params.zip vals)
noncomputable def pmap : List Str → List V → AMap
  | p :: ps, a :: as => (pmap ps as).set p a
  | _, _ => fun _ => none
noncomputable def namesOk (names : Names) (params : List Str) : Bool := nodupB params && (params.all fun p => storable names p) && names.all fun p => p.2 != .free

theorem cellsFrom_acc : ∀ {names : Names} {k : Nat} {acc : List (Str × Addr)} {p : Str × Addr}, p ∈ acc → p ∈ cellsFrom k names acc
  | [], _, _, _, h => h
  | (y, kk) :: r, k, acc, p, h => by
    unfold cellsFrom
    split
    · exact cellsFrom_acc (.tail _ h)
    · exact cellsFrom_acc h
theorem cellsFrom_has : ∀ {names : Names} {k : Nat} {acc : List (Str × Addr)} {y : Str}, (y, NameKind.cell) ∈ names → ∃ c, (y, c) ∈ cellsFrom k names acc
  | (z, kk) :: r, k, acc, y, h => by
    unfold cellsFrom
    rcases List.mem_cons.mp h with e | h
    · cases e; rw [if_pos (by decide)]; exact ⟨k, cellsFrom_acc (.head _)⟩
    · split
      · exact cellsFrom_has h
      · exact cellsFrom_has h
theorem cellsFrom_lookup {names : Names} {k : Nat} {y : Str} (h : names.lookup y = some .cell) : ∃ c, (cellsFrom k names []).lookup y = some c := by
  obtain ⟨c, hc⟩ := cellsFrom_has (k := k) (acc := []) (mem_of_lookup h)
  obtain ⟨c', h1, _⟩ := lookup_of_mem hc
  exact ⟨c', h1⟩
theorem bindL_not {kd : Str → Option NameKind} : ∀ {bs : List (Str × Value)} {m : Str → Option Value} {y : Str}, y ∉ bs.map (·.1) → bindL kd bs m y = m y
  | [], _, _, _ => rfl
  | (z, v) :: r, m, y, h => by
    rw [List.map_cons, List.mem_cons, not_or] at h
    unfold bindL
    rw [bindL_not h.2]
    split
    · exact if_neg h.1
    · rfl
theorem bindC_not {kd : Str → Option NameKind} : ∀ {bs : List (Str × Value)} {m : Str → Option Value} {y : Str}, y ∉ bs.map (·.1) → bindC kd bs m y = m y
  | [], _, _, _ => rfl
  | (z, v) :: r, m, y, h => by
    rw [List.map_cons, List.mem_cons, not_or] at h
    unfold bindC
    rw [bindC_not h.2]
    split
    · rfl
    · exact if_neg h.1
theorem bindL_at {kd : Str → Option NameKind} : ∀ {bs : List (Str × Value)} {m : Str → Option Value} {y : Str} {v : Value}, (bs.map (·.1)).Nodup → (y, v) ∈ bs → kd y = some .local → bindL kd bs m y = some v
  | (z, u) :: r, m, y, v, hn, h, hk => by
    rw [List.map_cons, List.nodup_cons] at hn
    unfold bindL
    rcases List.mem_cons.mp h with e | h
    · cases e
      rw [bindL_not hn.1, if_pos hk, if_pos rfl]
    · exact bindL_at hn.2 h hk
theorem bindC_at {kd : Str → Option NameKind} : ∀ {bs : List (Str × Value)} {m : Str → Option Value} {y : Str} {v : Value}, (bs.map (·.1)).Nodup → (y, v) ∈ bs → kd y ≠ some .local → bindC kd bs m y = some v
  | (z, u) :: r, m, y, v, hn, h, hk => by
    rw [List.map_cons, List.nodup_cons] at hn
    unfold bindC
    rcases List.mem_cons.mp h with e | h
    · cases e
      rw [bindC_not hn.1, if_neg hk, if_pos rfl]
    · exact bindC_at hn.2 h hk
theorem pmap_mem : ∀ {ps : List Str} {ws : List Value} {y : Str} {v : V}, pmap ps (ws.map abs) y = some v → ∃ w, (y, w) ∈ ps.zip ws ∧ abs w = v
  | [], _, _, _, h => by cases h
  | p :: ps, [], _, _, h => by cases h
  | p :: ps, w :: ws, y, v, h => by
    rw [List.map_cons] at h
    unfold pmap AMap.set at h
    split at h
    · rename_i e; subst e; cases h; exact ⟨w, .head _, rfl⟩
    · obtain ⟨w', h1, h2⟩ := pmap_mem h
      exact ⟨w', .tail _ h1, h2⟩

theorem fn_ok {G : Gd} {fa : Addr} {body : List Stmt} {names : Names} {params : List Str} {p : P} {j : Nat} {args : List V} {H : AHeap} {k : V → AHeap → Prop} {x : XE} (F : FnAt G.K fa body names params) (T : Tr names (.SS body) p) (hn : namesOk names params = true) (hlen : args.length = params.length)
    (h : wpS G j false p (pmap params args) H (fun _ H' => k .none H') k (fun c _ H' => x c H')) : CallF G (j + 1) fa args H k x := by
  intro A fl B es s ws ha hf R hw
  obtain ⟨cls, dict, fd, sl, f1, f2, f3, f4, f5, f6, f7, f8, f9, f10, f11⟩ := F.ex
  unfold namesOk at hn
  rw [Bool.and_eq_true, Bool.and_eq_true, List.all_eq_true, List.all_eq_true] at hn
  obtain ⟨⟨n1, n2⟩, n3⟩ := hn
  have hwl : ws.length = params.length := by rw [← hlen, ← hw, List.length_map]
  have hkeys : (params.zip ws).map (·.1) = params := by rw [List.map_fst_zip]; omega
  have hnd : ((params.zip ws).map (·.1)).Nodup := by rw [hkeys]; exact nodup_of n1
  have hst : ∀ q ∈ params.zip ws, names.lookup q.1 = some .local ∨ names.lookup q.1 = some .cell := fun q hq => by
    have hp : q.1 ∈ params := by rw [← hkeys]; exact List.mem_map.mpr ⟨q, hq, rfl⟩
    have := n2 _ hp
    unfold storable at this
    rw [Bool.or_eq_true, beq_iff_eq, beq_iff_eq] at this
    exact this
  refine codeAny_call_cells (fd := fd) (body := body) (binds := params.zip ws) (Nat.lt_of_le_of_lt (Nat.le_trans (Nat.le_add_right _ _) ha.depth) (by decide)) (R.inK _ _ f1) rfl R.nolimit (codeRec_of R.inK f8) f2 (f11 ws hwl) f7 (fun q hq => ?_) (fun s1 IC => ?_) f5 f6 f4
  · rw [f3]
    rcases hst q hq with e | e
    · exact .inl e
    · obtain ⟨c, hc⟩ := cellsFrom_lookup (k := s.heap.objs.size + 1) e
      exact .inr ⟨e, by rw [hc]; rfl⟩
  generalize hE : callEnvC fd s.heap.objs.size fa = env at IC ⊢
  have hloc : env.locals = s.heap.objs.size := by rw [← hE]; rfl
  have hfn : env.scope.kind = .function := by rw [← hE]; exact f4
  have hkn : env.scope.names = names := by rw [← hE]; exact f3
  have hcs : env.cells = cellsFrom (s.heap.objs.size + 1) names [] := by rw [← hE, ← f3]; rfl
  have hkd : ∀ y, env.kindOf y = names.lookup y := fun y => by show env.scope.names.lookup y = _; rw [hkn]
  have X : EnvS names env := by
    refine ⟨⟨hfn, hkn, fun y hy => ?_⟩, fun y c hc => IC.above y c (mem_of_lookup hc)⟩
    rcases hy with hy | hy
    · rw [hcs]; exact cellsFrom_lookup hy
    · exfalso
      have := n3 _ (mem_of_lookup hy)
      have e : (NameKind.free != NameKind.free) = false := by decide
      exact absurd (this.symm.trans e) (by decide)
  obtain ⟨h1, tk1, rfl⟩ := IC.toInCall.same
  have FA : FrameAt env (pmap params args) h1 := by
    refine ⟨hfn, by rw [← hE]; exact f9, by rw [← hE]; exact f10, ⟨_, IC.toInCall.ns, fun y v e => ?_⟩, fun y c hc => ⟨_, IC.cell y c hc⟩, IC.apart⟩
    rw [← hw] at e
    obtain ⟨w, hm, rfl⟩ := pmap_mem e
    rcases hst _ hm with q | q
    · exact .inl ⟨by rw [hkd]; exact q, w, bindL_at hnd hm (by rw [hkd]; exact q), rfl⟩
    · obtain ⟨c, hc⟩ := X.cells y (.inl q)
      have hb := bindC_at (kd := env.kindOf) (m := fun _ => none) hnd hm (by rw [hkd]; intro z; rw [show (y, w).1 = y from rfl, z] at q; cases q)
      refine .inr ⟨.inl (by rw [hkd]; exact q), c, w, hc, ?_, rfl⟩
      have := IC.cell y c hc
      rw [hb] at this; exact this
  have R1 : Rep G B ((env, pmap params args) :: es) H h1 := R.enter IC.toInCall.keep (by rw [hloc]; exact Nat.le_refl _) FA fun y c hc => R.freshB (Nat.le_of_lt (Nat.lt_of_le_of_lt (by rw [← hloc]; exact Nat.le_refl _) (IC.above y c (mem_of_lookup hc))))
  have hfr : env.frame = some env.locals := by rw [← hE]; rfl
  have hF : FlOk (env :: fl) ((env, pmap params args) :: es) := hf.enter hfr
  have hA : AOk (A.deeper env) false j (env :: fl) := by
    refine ⟨?_, fun _ => ha.handled rfl, ?_, ?_⟩
    · show A.frames.map (env :: ·) = _; rw [ha.frames]; rfl
    · show A.depth + 1 + 2 * j ≤ 900; have := ha.depth; omega
    · show A.units + 3 + 20 * j ≤ 9000; have := ha.units; omega
  have S := (sound (G := G) T) j false env (pmap params args) H (fun _ H' => k .none H') k (fun c _ H' => x c H') X h
  refine wpAny_mono (S (A.deeper env) fl B es { s with heap := h1, toks := tk1 } hA hF R1) ?_ ?_
  · rintro f s2 ⟨h2, tk2, H2, m2, rfl, R2, q⟩
    cases f with
    | next => exact ⟨h2, tk2, H2, rfl, R2.tail, q⟩
    | ret v => exact ⟨h2, tk2, H2, rfl, R2.tail, q⟩
    | brk => exact q.elim
    | cont => exact q.elim
  · rintro e s2 ⟨h2, tk2, H2, m2, a, c, rfl, rfl, R2, Y2, q⟩
    refine leave_ok (s := { s with heap := h2, toks := tk2 }) hA.frames hF.remap R2 Y2 fun h3 R3 Y3 => ?_
    exact ⟨h3, tk2, H2, a, c, rfl, rfl, R3.tail, Y3.mono fun _ z => onP_none z, q⟩
end Mine
end
section
namespace Mine
open PySem PySem.W PySem.Calls PyProof.Rows
noncomputable def p_common : P := (.cons (.while (.cmp .gt (.name "other") (.const (.int 0))) (.cons (.assign "rest" (.bin .mod (.name "one") (.name "other")))
  (.cons (.assign "one" (.name "other"))
  (.cons (.assign "other" (.name "rest"))
  .nil))))
  (.cons (.ret (.name "one"))
  .nil))
noncomputable def a_common : List Str := ["one", "other"]
noncomputable def p_turned : P := (.cons (.assign "old" (.name "base"))
  (.cons (.assign "new" (.bin .mod (.name "number") (.name "base")))
  (.cons (.assign "told" (.const (.int 0)))
  (.cons (.assign "coming" (.const (.int 1)))
  (.cons (.while (.cmp .gt (.name "new") (.const (.int 0))) (.cons (.assign "often" (.bin .fdiv (.name "old") (.name "new")))
  (.cons (.assign "rest" (.bin .sub (.name "old") (.bin .mul (.name "often") (.name "new"))))
  (.cons (.assign "old" (.name "new"))
  (.cons (.assign "new" (.name "rest"))
  (.cons (.assign "kept" (.bin .sub (.name "told") (.bin .mul (.name "often") (.name "coming"))))
  (.cons (.assign "told" (.name "coming"))
  (.cons (.assign "coming" (.name "kept"))
  .nil))))))))
  (.cons (.ite (.cmp .ne (.name "old") (.const (.int 1))) (.cons (.raise "NoTurn")
  .nil) .nil)
  (.cons (.ret (.bin .mod (.name "told") (.name "base")))
  .nil)))))))
noncomputable def a_turned : List Str := ["number", "base"]
noncomputable def p_are_bases : P := (.cons (.ite (.or (.not (.isinst (.name "bases") "list")) (.not (.cmp2 .le .le (.glob "FEWEST") (.bi "len" (.cons (.name "bases") .nil)) (.glob "MOST")))) (.cons (.ret (.const (.bool false)))
  .nil) .nil)
  (.cons (.forR "at" (.cons (.bi "len" (.cons (.name "bases") .nil)) .nil) (.cons (.assign "base" (.sub (.name "bases") (.name "at")))
  (.cons (.ite (.or (.not (.cmp2 .le .le (.const (.int 3)) (.name "base") (.glob "GREATEST"))) (.cmp .eq (.bin .mod (.name "base") (.const (.int 2))) (.const (.int 0)))) (.cons (.ret (.const (.bool false)))
  .nil) .nil)
  (.cons (.ite (.and (.cmp .gt (.name "at") (.const (.int 0))) (.cmp .ge (.sub (.name "bases") (.bin .sub (.name "at") (.const (.int 1)))) (.name "base"))) (.cons (.ret (.const (.bool false)))
  .nil) .nil)
  (.cons (.forL "other" (.slice (.name "bases") (.const .none) (.name "at")) (.cons (.ite (.cmp .ne (.call "common" (.cons (.name "base") (.cons (.name "other") .nil))) (.const (.int 1))) (.cons (.ret (.const (.bool false)))
  .nil) .nil)
  .nil))
  .nil)))))
  (.cons (.ret (.const (.bool true)))
  .nil)))
noncomputable def a_are_bases : List Str := ["bases"]
noncomputable def p_product : P := (.cons (.assign "whole" (.const (.int 1)))
  (.cons (.forL "number" (.name "numbers") (.cons (.assign "whole" (.bin .mul (.name "whole") (.name "number")))
  .nil))
  (.cons (.ret (.name "whole"))
  .nil)))
noncomputable def a_product : List Str := ["numbers"]
noncomputable def p_whole_of : P := (.cons (.assign "number" (.const (.int 0)))
  (.cons (.forR "at" (.cons (.bin .sub (.bi "len" (.cons (.name "bases") .nil)) (.const (.int 1))) (.cons (.bin .sub (.const (.int 0)) (.const (.int 1))) (.cons (.bin .sub (.const (.int 0)) (.const (.int 1))) .nil))) (.cons (.assign "number" (.bin .add (.bin .mul (.name "number") (.sub (.name "bases") (.name "at"))) (.sub (.name "figures") (.name "at"))))
  .nil))
  (.cons (.ret (.name "number"))
  .nil)))
noncomputable def a_whole_of : List Str := ["figures", "bases"]
noncomputable def p_figures_of : P := (.cons (.assign "found" (.list .nil))
  (.cons (.forR "at" (.cons (.bi "len" (.cons (.name "bases") .nil)) .nil) (.cons (.assign "base" (.sub (.name "bases") (.name "at")))
  (.cons (.assign "known" (.call "whole_of" (.cons (.name "found") (.cons (.slice (.name "bases") (.const .none) (.name "at")) .nil))))
  (.cons (.assign "weight" (.bin .mod (.call "product" (.cons (.slice (.name "bases") (.const .none) (.name "at")) .nil)) (.name "base")))
  (.cons (.assign "left" (.bin .mod (.bin .sub (.sub (.name "row") (.name "at")) (.name "known")) (.name "base")))
  (.cons (.expr (.meth (.name "found") "append" (.cons (.bin .mod (.bin .mul (.name "left") (.call "turned" (.cons (.name "weight") (.cons (.name "base") .nil)))) (.name "base")) .nil)))
  .nil))))))
  (.cons (.ret (.name "found"))
  .nil)))
noncomputable def a_figures_of : List Str := ["row", "bases"]
noncomputable def p_Board_init : P := (.cons (.ite (.not (.call "are_bases" (.cons (.name "bases") .nil))) (.cons (.raise "NoBases")
  .nil) .nil)
  (.cons (.setAttr (.name "self") "bases" (.bi "list" (.cons (.name "bases") .nil)))
  .nil))
noncomputable def a_Board_init : List Str := ["self", "bases"]
noncomputable def p_Board_room : P := (.cons (.ret (.call "product" (.cons (.slice (.attr (.name "self") "bases") (.const .none) (.neg (.const (.int 2)))) .nil)))
  .nil)
noncomputable def a_Board_room : List Str := ["self"]
noncomputable def p_Board_rests : P := (.cons (.ite (.or (.cmp .lt (.name "number") (.const (.int 0))) (.cmp .ge (.name "number") (.meth (.name "self") "room" .nil))) (.cons (.raise "OutOfRoom")
  .nil) .nil)
  (.cons (.ret (.comp false (.bin .mod (.name "number") (.name "base")) "base" ["number"] (.attr (.name "self") "bases") (.const (.bool true))))
  .nil))
noncomputable def a_Board_rests : List Str := ["self", "number"]
noncomputable def p_Board_need_row : P := (.cons (.ite (.cmp .ne (.bi "len" (.cons (.name "row") .nil)) (.bi "len" (.cons (.attr (.name "self") "bases") .nil))) (.cons (.raise "NoRow")
  .nil) .nil)
  (.cons (.forR "at" (.cons (.bi "len" (.cons (.name "row") .nil)) .nil) (.cons (.ite (.and (.cmp .ne (.name "at") (.name "passed")) (.not (.meth (.name "self") "is_rest" (.cons (.sub (.name "row") (.name "at")) (.cons (.sub (.attr (.name "self") "bases") (.name "at")) .nil))))) (.cons (.raise "NoRow")
  .nil) .nil)
  .nil))
  .nil))
noncomputable def a_Board_need_row : List Str := ["self", "row", "passed"]
noncomputable def p_Board_is_rest : P := (.cons (.ret (.and (.isinst (.name "number") "int") (.cmp2 .le .lt (.const (.int 0)) (.name "number") (.name "base"))))
  .nil)
noncomputable def a_Board_is_rest : List Str := ["self", "number", "base"]
noncomputable def p_Board_figures : P := (.cons (.expr (.meth (.name "self") "need_row" (.cons (.name "row") (.cons (.const .none) .nil))))
  (.cons (.ret (.call "figures_of" (.cons (.name "row") (.cons (.attr (.name "self") "bases") .nil))))
  .nil))
noncomputable def a_Board_figures : List Str := ["self", "row"]
noncomputable def p_Board_tells : P := (.cons (.assign "found" (.meth (.name "self") "figures" (.cons (.name "row") .nil)))
  (.cons (.ret (.and (.cmp .eq (.sub (.name "found") (.neg (.const (.int 1)))) (.const (.int 0))) (.cmp .eq (.sub (.name "found") (.neg (.const (.int 2)))) (.const (.int 0)))))
  .nil))
noncomputable def a_Board_tells : List Str := ["self", "row"]
noncomputable def p_Board_number : P := (.cons (.ite (.not (.meth (.name "self") "tells" (.cons (.name "row") .nil))) (.cons (.raise "NoNumber")
  .nil) .nil)
  (.cons (.ret (.call "whole_of" (.cons (.meth (.name "self") "figures" (.cons (.name "row") .nil)) (.cons (.attr (.name "self") "bases") .nil))))
  .nil))
noncomputable def a_Board_number : List Str := ["self", "row"]
noncomputable def p_law_cell_at : P := (.cons (.ite (.cmp .lt (.name "_law_k") (.bi "len" (.cons (.name "_law_script") .nil))) (.cons (.ret (.sub (.name "_law_script") (.name "_law_k")))
  .nil) .nil)
  (.cons (.ret (.const (.int 0)))
  .nil))
noncomputable def a_law_cell_at : List Str := ["_law_script", "_law_k"]
noncomputable def p_law_bases : P := (.cons (.assign "_law_some" (.list .nil))
  (.cons (.assign "_law_primes" (.list (.cons (.const (.int 3)) (.cons (.const (.int 5)) (.cons (.const (.int 7)) (.cons (.const (.int 11)) (.cons (.const (.int 13)) .nil)))))))
  (.cons (.assign "_law_ends" (.list (.cons (.const (.int 17)) (.cons (.const (.int 19)) (.cons (.const (.int 23)) (.cons (.const (.int 29)) (.cons (.const (.int 31)) (.cons (.const (.int 37)) (.cons (.const (.int 41)) (.cons (.const (.int 43)) (.cons (.const (.int 47)) .nil)))))))))))
  (.cons (.assign "_law_far" (.bin .mul (.const (.int 30030)) (.bin .mod (.name "_law_other") (.const (.int 34)))))
  (.cons (.assign "_law_picks" (.bin .fdiv (.name "_law_other") (.const (.int 34))))
  (.cons (.ite (.cmp .eq (.bin .mod (.name "_law_one") (.const (.int 7))) (.const (.int 6))) (.cons (.assign "_law_primes" (.list (.cons (.const (.int 3)) (.cons (.const (.int 5)) (.cons (.const (.int 7)) (.cons (.const (.int 11)) .nil))))))
  (.cons (.assign "_law_ends" (.list (.cons (.const (.int 13)) (.cons (.const (.int 17)) (.cons (.const (.int 19)) (.cons (.const (.int 23)) (.cons (.const (.int 29)) (.cons (.const (.int 31)) .nil))))))))
  (.cons (.assign "_law_far" (.bin .mul (.const (.int 2310)) (.bin .mod (.name "_law_other") (.const (.int 429)))))
  (.cons (.assign "_law_picks" (.bin .fdiv (.name "_law_other") (.const (.int 429))))
  .nil)))) .nil)
  (.cons (.forL "_law_prime" (.name "_law_primes") (.cons (.ite (.cmp .gt (.bin .mod (.name "_law_one") (.const (.int 4))) (.const (.int 0))) (.cons (.expr (.meth (.name "_law_some") "append" (.cons (.bin .mul (.name "_law_prime") (.sub (.list (.cons (.const (.int 1)) (.cons (.const (.int 1)) (.cons (.name "_law_prime") (.cons (.bin .mul (.name "_law_prime") (.name "_law_prime")) .nil))))) (.bin .mod (.name "_law_one") (.const (.int 4))))) .nil)))
  .nil) .nil)
  (.cons (.assign "_law_one" (.bin .fdiv (.name "_law_one") (.const (.int 4))))
  .nil)))
  (.cons (.ite (.and (.cmp .eq (.bin .mod (.name "_law_one") (.const (.int 2))) (.const (.int 1))) (.and (.cmp .gt (.bi "len" (.cons (.name "_law_some") .nil)) (.const (.int 1))) (.cmp .lt (.bin .mul (.sub (.name "_law_some") (.const (.int 0))) (.sub (.name "_law_some") (.const (.int 1)))) (.const (.int 900000))))) (.cons (.assign "_law_some" (.bin .add (.list (.cons (.bin .mul (.sub (.name "_law_some") (.const (.int 0))) (.sub (.name "_law_some") (.const (.int 1)))) .nil)) (.slice (.name "_law_some") (.const (.int 2)) (.const .none))))
  .nil) .nil)
  (.cons (.forR "_law_k" (.cons (.bi "len" (.cons (.name "_law_ends") .nil)) .nil) (.cons (.ite (.or (.cmp .eq (.bin .mod (.name "_law_picks") (.const (.int 2))) (.const (.int 1))) (.cmp .le (.bin .sub (.bin .add (.bi "len" (.cons (.name "_law_some") .nil)) (.bi "len" (.cons (.name "_law_ends") .nil))) (.name "_law_k")) (.const (.int 3)))) (.cons (.expr (.meth (.name "_law_some") "append" (.cons (.bin .add (.name "_law_far") (.sub (.name "_law_ends") (.name "_law_k"))) .nil)))
  .nil) .nil)
  (.cons (.assign "_law_picks" (.bin .fdiv (.name "_law_picks") (.const (.int 2))))
  .nil)))
  (.cons (.ret (.bi "sorted" (.cons (.name "_law_some") .nil)))
  .nil))))))))))
noncomputable def a_law_bases : List Str := ["_law_one", "_law_other"]

/-- a def of the text at a place -/
noncomputable def DefAt (K : Frag) (fa : Addr) (params : List Str) (p : P) : Prop := ∃ body names, FnAt K fa body names params ∧ Tr names (.SS body) p ∧ namesOk names params = true
noncomputable def Def (K : Frag) (f : Str) (params : List Str) (p : P) : Prop := ∃ fa, nsIn K mainGlobals f = some (some (.ref fa)) ∧ keepIn K (.ref fa) = true ∧ DefAt K fa params p
noncomputable def Meth (K : Frag) (f : Str) (params : List Str) (p : P) : Prop := ∃ fa, bmeth K f = some fa ∧ DefAt K fa params p
noncomputable def Init (K : Frag) (params : List Str) (p : P) : Prop := ∃ C fa, nsIn K mainGlobals "Board" = some (some (.ref C)) ∧ makesIn K C = true ∧ keepIn K (.ref C) = true ∧ findIn K (.ref C) "__init__" = some (some (.ref fa)) ∧ isFn K (.ref fa) = true ∧ typeIn K (.ref fa) = some (.type "function") ∧ DefAt K fa params p
noncomputable def Num (K : Frag) (f : Str) (i : Int) : Prop := ∃ t, nsIn K mainGlobals f = some (some (.int i t))
/-- what every law's text holds -/
structure Lib (K : Frag) : Prop where
  common : Def K "common" a_common p_common
  turned : Def K "turned" a_turned p_turned
  are_bases : Def K "are_bases" a_are_bases p_are_bases
  product : Def K "product" a_product p_product
  whole_of : Def K "whole_of" a_whole_of p_whole_of
  figures_of : Def K "figures_of" a_figures_of p_figures_of
  init : Init K a_Board_init p_Board_init
  room : Meth K "room" a_Board_room p_Board_room
  rests : Meth K "rests" a_Board_rests p_Board_rests
  need_row : Meth K "need_row" a_Board_need_row p_Board_need_row
  is_rest : Meth K "is_rest" a_Board_is_rest p_Board_is_rest
  figures : Meth K "figures" a_Board_figures p_Board_figures
  tells : Meth K "tells" a_Board_tells p_Board_tells
  number : Meth K "number" a_Board_number p_Board_number
  cell_at : Def K "_law_cell_at" a_law_cell_at p_law_cell_at
  bases : Def K "_law_bases" a_law_bases p_law_bases
  excs : ((["RestError", "NoBases", "NoRow", "NoNumber", "NoTurn", "OutOfRoom"] : List Str).all fun c => excOk K c) = true
  fewest : Num K "FEWEST" 3
  most : Num K "MOST" 14
  greatest : Num K "GREATEST" 999999
end Mine
end
section
namespace Mine
open PySem PySem.W PySem.Calls PyProof.Rows

noncomputable def only (l : Addr) (ns : List Int) : AHeap := fun b => if b = l then some (.script ns) else none
theorem law_top {G : Gd} {n : Nat} {fa l : Addr} {vs : List Value} {ns : List Int} {s : Shared} (hs : s.heap = G.base) (hL : s.heap.IsList l vs.toArray) (hI : IntsAre vs ns) (hl : ns.length ≤ 1000) (hn : n ≤ 200)
    (h : CallF G n fa [.ref l] (only l ns) (fun v _ => v = .bool true) fun _ _ => False) :
    codeAny (model G.prog G.w) callerA (.call (.ref fa) ⟨[.ref l], []⟩) (fun r s' => r = .ok (.ret (.bool true)) ∧ (∀ b o, s.heap.get? b = some o → s'.heap.get? b = some o) ∧ s'.os = s.os ∧ s'.gens = s.gens) s := by
  have hA : AOk callerA false n [] := ⟨rfl, fun _ => rfl, by show 1 + claimMargin + 2 * n ≤ 900; have : claimMargin = 300 := rfl; omega, by show 4 + 20 * n ≤ 9000; omega⟩
  have R : Rep G (fun b => G.base.get? b) [] (only l ns) s.heap := by
    refine ⟨fun b o e => by rw [hs]; exact e, fun b o e => e, fun p hp => (by cases hp), trivial, fun p hp => (by cases hp), fun a o e => ?_⟩
    unfold only at e
    split at e
    · rename_i q; subst q; cases e
      obtain ⟨ol, e1, e2⟩ := hL
      exact ⟨⟨ol, by rw [← hs]; exact e1⟩, hl, vs, ⟨ol, e1, e2⟩, of_ints hI⟩
    · cases e
  refine codeAny_mono (h callerA [] _ [] s [.ref l] hA ⟨fun e he => (by cases he), fun e he => (by cases he)⟩ R rfl) fun r s' z => ?_
  cases r with
  | error e => obtain ⟨_, _, _, _, _, _, _, _, _, q⟩ := z; exact q.elim
  | ok f => cases f with
    | ret v =>
      obtain ⟨h', tk, H', rfl, R', q⟩ := z
      refine ⟨by rw [abs_bool q], fun b o e => R'.keep b o (by rw [← hs]; exact e), rfl, rfl⟩
    | next => exact z.elim
    | brk => exact z.elim
    | cont => exact z.elim
end Mine
end
section
namespace Mine
open PySem PySem.W PySem.Calls PyProof.Rows

theorem set_at {m : AMap} {x : Str} {v : V} : (m.set x v) x = some v := by unfold AMap.set; rw [if_pos rfl]
theorem set_ne {m : AMap} {x y : Str} {v : V} (h : y ≠ x) : (m.set x v) y = m y := by unfold AMap.set; rw [if_neg h]
theorem upd_at {H : AHeap} {a : Addr} {o : AObj} : (H.upd a o) a = some o := by unfold AHeap.upd; rw [if_pos rfl]
theorem upd_ne {H : AHeap} {a b : Addr} {o : AObj} (h : b ≠ a) : (H.upd a o) b = H b := by unfold AHeap.upd; rw [if_neg h]
/-- a call of the def, in plain terms -/
noncomputable def FnC (G : Gd) (j : Nat) (params : List Str) (p : P) (vs : List V) (H : AHeap) (k : V → AHeap → Prop) (x : XE) : Prop := wpS G j false p (pmap params vs) H (fun _ H' => k .none H') k (fun c _ H' => x c H')
section
variable {G : Gd} {n : Nat} {m : AMap} {H : AHeap} {k : V → AHeap → Prop} {x : XE} {f : Str} {as : P} {params : List Str} {p : P}
theorem callF_of {fa : Addr} {vs : List V} (D : DefAt G.K fa params p) (hn : 1 ≤ n) (hl : vs.length = params.length) (h : FnC G (n - 1) params p vs H k x) : CallF G n fa vs H k x := by
  obtain ⟨body, names, F, T, hk⟩ := D
  obtain ⟨j, rfl⟩ : ∃ j, n = j + 1 := ⟨n - 1, by omega⟩
  exact fn_ok F T hk hl h
theorem wpE_call (L : Def G.K f params p) (hn : 2 ≤ n) (h : wpL G n false as m H (fun vs H1 => vs.length = params.length ∧ FnC G (n - 2) params p vs H1 k x) x) : wpE G n false (.call f as) m H k x := by
  obtain ⟨fa, e1, e2, D⟩ := L
  exact ⟨rfl, n - 1, fa, ⟨by omega, e1, e2⟩, wpL_mono h fun vs H1 q => callF_of D (by omega) q.1 q.2⟩
theorem wpE_make {params : List Str} (L : Init G.K params p) (hn : 2 ≤ n) (h : wpL G n false as m H (fun vs H1 => vs.length + 1 = params.length ∧ ∀ a, H1 a = none → FnC G (n - 2) params p (.ref a :: vs) (H1.upd a (.board none)) (fun v H' => v = .none ∧ k (.ref a) H') x) x) : wpE G n false (.make "Board" as) m H k x := by
  obtain ⟨C, fa, e1, e2, e3, e4, e5, e6, D⟩ := L
  exact ⟨rfl, n - 1, C, fa, ⟨by omega, rfl, e1, e2, e3, e4, e5, e6⟩, wpL_mono h fun vs H1 q a ha => callF_of D (by omega) (by rw [List.length_cons]; exact q.1) (q.2 a ha)⟩
theorem methPre_board {a : Addr} {b : Option Addr} (M : Meth G.K f params p) (ha : H a = some (.board b)) : methPre G (.ref a) f H := by
  obtain ⟨fa, e, D⟩ := M
  unfold methPre
  dsimp only
  rw [ha]
  exact ⟨fa, e⟩
theorem wpMeth_board {a : Addr} {b : Option Addr} {H2 : AHeap} {vs : List V} (M : Meth G.K f params p) (hn : 2 ≤ n) (ha : H a = some (.board b)) (hl : vs.length + 1 = params.length) (h : FnC G (n - 2) params p (.ref a :: vs) H2 k x) : wpMeth G n (.ref a) f vs H H2 k x := by
  obtain ⟨fa, e, D⟩ := M
  unfold wpMeth
  dsimp only
  rw [ha]
  exact ⟨n - 1, fa, by omega, e, callF_of D (by omega) (by rw [List.length_cons]; exact hl) h⟩
end

noncomputable def vi (ns : List Int) : List V := ns.map V.int
noncomputable def Ext (H H' : AHeap) : Prop := ∀ a o, H a = some o → H' a = some o
theorem Ext.refl {H : AHeap} : Ext H H := fun _ _ e => e
theorem Ext.trans {H1 H2 H3 : AHeap} (h : Ext H1 H2) (h' : Ext H2 H3) : Ext H1 H3 := fun a o e => h' a o (h a o e)
theorem Ext.new {H : AHeap} {c : Addr} {o : AObj} (h : H c = none) : Ext H (H.upd c o) := fun a o' e => by
  unfold AHeap.upd
  split
  · rename_i q; subst q; rw [h] at e; cases e
  · exact e
section
variable {G : Gd} {n : Nat} {hd : Bool} {m : AMap} {H : AHeap} {k : V → AHeap → Prop} {x : XE} {kn : AMap → AHeap → Prop} {kr : V → AHeap → Prop} {xs : XS} {a b c l : P} {y z : Str} {o o' : Op} {q q' : Cm} {v : V}
theorem w_const : wpE G n hd (.const v) m H k x = k v H := rfl
theorem w_name : wpE G n hd (.name y) m H k x = ∃ v, m y = some v ∧ k v H := rfl
theorem w_bin : wpE G n hd (.bin o a b) m H k x = wpE G n hd a m H (fun u H1 => wpE G n hd b m H1 (fun v H2 => wpBin o u v H2 k) x) x := rfl
theorem w_not : wpE G n hd (.not a) m H k x = wpE G n hd a m H (fun u H1 => wpTruth u fun b => k (.bool (!b)) H1) x := rfl
theorem w_and : wpE G n hd (.and a b) m H k x = wpE G n hd a m H (fun u H1 => wpTruth u fun t => (t = true → wpE G n hd b m H1 k x) ∧ (t = false → k u H1)) x := rfl
theorem w_or : wpE G n hd (.or a b) m H k x = wpE G n hd a m H (fun u H1 => wpTruth u fun t => (t = false → wpE G n hd b m H1 k x) ∧ (t = true → k u H1)) x := rfl
theorem w_cmp : wpE G n hd (.cmp q a b) m H k x = wpE G n hd a m H (fun u H1 => wpE G n hd b m H1 (fun v H2 => wpCmp q u v H2 fun r => k (.bool r) H2) x) x := rfl
theorem w_bi : wpE G n hd (.bi y a) m H k x = wpL G n hd a m H (fun vs H1 => wpBi hd y vs H1 k) x := rfl
theorem w_meth : wpE G n hd (.meth a y b) m H k x = (hd = false ∧ wpE G n hd a m H (fun u H1 => methPre G u y H1 ∧ wpL G n hd b m H1 (fun vs H2 => wpMeth G n u y vs H1 H2 k x) x) x) := rfl
theorem w_sub : wpE G n hd (.sub a b) m H k x = wpE G n hd a m H (fun u H1 => wpE G n hd b m H1 (fun v H2 => wpSub u v H2 fun r => k r H2) x) x := rfl
theorem w_slice : wpE G n hd (.slice a b c) m H k x = wpE G n hd a m H (fun u H1 => wpE G n hd b m H1 (fun l H2 => wpE G n hd c m H2 (fun r H3 => wpSlice u l r H3 k) x) x) x := rfl
theorem w_list : wpE G n hd (.list a) m H k x = wpL G n hd a m H (fun vs H1 => vs.length ≤ 1000 ∧ ∀ c, H1 c = Option.none → k (.ref c) (H1.upd c (.list vs))) x := rfl
theorem l_nil {k : List V → AHeap → Prop} : wpL G n hd .nil m H k x = k [] H := rfl
theorem l_cons {k : List V → AHeap → Prop} : wpL G n hd (.cons a l) m H k x = wpE G n hd a m H (fun v H1 => wpL G n hd l m H1 (fun vs H2 => k (v :: vs) H2) x) x := rfl
theorem b_add {i j : Int} : wpBin .add (.int i) (.int j) H k = k (.int (i + j)) H := rfl
theorem b_sub {i j : Int} : wpBin .sub (.int i) (.int j) H k = k (.int (i - j)) H := rfl
theorem b_mul {i j : Int} : wpBin .mul (.int i) (.int j) H k = (MulOk i j ∧ k (.int (i * j)) H) := rfl
theorem b_fdiv {i j : Int} : wpBin .fdiv (.int i) (.int j) H k = (0 < j ∧ j < 10 ^ 100 ∧ k (.int (i / j)) H) := rfl
theorem b_mod {i j : Int} : wpBin .mod (.int i) (.int j) H k = (0 < j ∧ k (.int (i % j)) H) := rfl
theorem s_nil (h : kn m H) : wpS G n hd .nil m H kn kr xs := h
theorem s_assign (h : wpE G n hd a m H (fun v H1 => wpS G n hd l (m.set y v) H1 kn kr xs) (fun c => xs c m)) : wpS G n hd (.cons (.assign y a) l) m H kn kr xs := h
theorem s_expr (h : wpE G n hd a m H (fun _ H1 => wpS G n hd l m H1 kn kr xs) (fun c => xs c m)) : wpS G n hd (.cons (.expr a) l) m H kn kr xs := h
theorem s_ret (h : wpE G n hd a m H kr (fun c => xs c m)) : wpS G n hd (.cons (.ret a) l) m H kn kr xs := h
theorem s_ite (h : wpE G n hd a m H (fun u H1 => wpTruth u fun r => (r = true → wpS G n hd b m H1 (fun m' H' => wpS G n hd l m' H' kn kr xs) kr xs) ∧ (r = false → wpS G n hd c m H1 (fun m' H' => wpS G n hd l m' H' kn kr xs) kr xs)) (fun c => xs c m)) : wpS G n hd (.cons (.ite a b c) l) m H kn kr xs := h
theorem s_raise (h1 : hd = false) (h2 : excOk G.K y = true) (h : xs y m H) : wpS G n hd (.cons (.raise y) l) m H kn kr xs := ⟨h1, h2, h⟩
end
theorem itemAt_pos {vs : List V} {i : Nat} {v : V} (h : vs[i]? = some v) : itemAt vs (i : Int) = some v := by
  unfold itemAt; rw [if_pos (by omega)]; simpa using h
theorem vi_get {ns : List Int} {i : Nat} {n : Int} (h : ns[i]? = some n) : (vi ns)[i]? = some (.int n) := by unfold vi; rw [List.getElem?_map, h]; rfl
theorem sub_at {H : AHeap} {a : Addr} {vs : List V} {i : Int} {v : V} {k : V → Prop} (ha : H a = some (.list vs)) (hv : itemAt vs i = some v) (h : k v) : wpSub (.ref a) (.int i) H k := by
  unfold wpSub; dsimp only; rw [ha]; exact ⟨v, hv, h⟩

theorem gcd_step {u v : Int} (hu : 0 ≤ u) (hv : 0 < v) : Int.gcd v (u % v) = Int.gcd u v := by
  obtain ⟨a, rfl⟩ := Int.eq_ofNat_of_zero_le hu
  obtain ⟨b, rfl⟩ := Int.eq_ofNat_of_zero_le (Int.le_of_lt hv)
  rw [← Int.natCast_emod, Int.gcd_natCast_natCast, Int.gcd_natCast_natCast, Nat.gcd_comm b, ← Nat.gcd_rec, Nat.gcd_comm]

theorem c_common {G : Gd} {j : Nat} {a b : Int} {H : AHeap} {k : V → AHeap → Prop} {x : XE} (ha : 0 ≤ a) (hb : 0 ≤ b) (h : k (.int (Int.gcd a b)) H) : FnC G j a_common p_common [.int a, .int b] H k x := by
  unfold FnC p_common a_common
  refine ⟨rfl, fun i m' H' => ∃ u v : Int, 0 ≤ u ∧ 0 ≤ v ∧ v.toNat = i ∧ Int.gcd u v = Int.gcd a b ∧ m' "one" = some (.int u) ∧ m' "other" = some (.int v) ∧ H' = H, b.toNat, ⟨a, b, ha, hb, rfl, rfl, rfl, rfl, rfl⟩, ?_⟩
  rintro i m' H' ⟨u, v, h1, h2, rfl, h4, h5, h6, rfl⟩
  refine ⟨_, h6, fun hv => ?_, fun hv => ?_⟩
  · have hv := of_decide_eq_true hv
    refine ⟨_, h5, _, h6, hv, _, (set_ne (by decide)).trans h6, _, rfl, (u % v).toNat, ?_, v, u % v, h2, Int.emod_nonneg _ (by omega), rfl, by rw [gcd_step h1 hv]; exact h4, rfl, rfl, rfl⟩
    have := Int.emod_lt_of_pos u hv
    have := Int.emod_nonneg u (b := v) (by omega)
    omega
  · have hv := of_decide_eq_false hv
    have : v = 0 := by omega
    subst this
    refine ⟨_, h5, ?_⟩
    rw [Int.gcd_zero_right] at h4
    have : (u : Int) = (Int.gcd a b : Nat) := by rw [← h4]; omega
    rw [this]; exact h

theorem c_product {G : Gd} {j : Nat} {a : Addr} {ns : List Int} {H : AHeap} {k : V → AHeap → Prop} {x : XE} (ha : H a = some (.list (vi ns))) (hs : ∀ b ∈ ns, Sm b) (h : k (.int ns.prod) H) : FnC G j a_product p_product [.ref a] H k x := by
  unfold FnC p_product a_product
  refine ⟨rfl, _, rfl, a, vi ns, rfl, ha, fun i m' H' => m' "whole" = some (.int (ns.take i).prod) ∧ H' = H, ⟨by simp [set_at], rfl⟩, ?_, ?_⟩
  · rintro i v m' H' hv ⟨h1, rfl⟩
    refine ⟨ha, ?_⟩
    obtain ⟨u, hu, rfl⟩ : ∃ u, ns[i]? = some u ∧ v = .int u := by
      unfold vi at hv; rw [List.getElem?_map, Option.map_eq_some_iff] at hv; obtain ⟨u, h1, h2⟩ := hv; exact ⟨u, h1, h2.symm⟩
    refine ⟨_, (set_ne (by decide)).trans h1, _, set_at, .inr (.inl (hs u (List.mem_of_getElem? hu))), ⟨?_, rfl⟩, ha⟩
    rw [set_at, List.take_succ, hu, List.prod_append]
    simp
  · rintro m' H' ⟨h1, rfl⟩
    refine ⟨_, h1, ?_⟩
    rw [show (vi ns).length = ns.length by simp [vi], List.take_length]
    exact h

theorem c_whole_of {G : Gd} {j : Nat} {a b : Addr} {fs bs : List Int} {H : AHeap} {k : V → AHeap → Prop} {x : XE} (ha : H a = some (.list (vi fs))) (hb : H b = some (.list (vi bs))) (hl : fs.length = bs.length) (hl2 : bs.length ≤ 1000) (hs : ∀ b ∈ bs, Sm b) (h : k (.int (whole fs bs)) H) : FnC G j a_whole_of p_whole_of [.ref a, .ref b] H k x := by
  unfold FnC p_whole_of a_whole_of
  have hlen : (vi bs).length = bs.length := by simp [vi]
  refine ⟨rfl, ?_⟩
  simp (disch := decide) only [w_const, w_name, w_bin, w_bi, l_nil, l_cons, wpBin]
  refine ⟨_, rfl, ?_⟩
  unfold wpBi
  dsimp only
  rw [hb]
  refine .inl ⟨rfl, (bs.length : Int) - 1, -1, -1, ?_, ?_, ?_, fun i m' H' => m' "number" = some (.int (whole (fs.drop (bs.length - i)) (bs.drop (bs.length - i)))) ∧ m' "figures" = some (.ref a) ∧ m' "bases" = some (.ref b) ∧ H' = H, ?_, ?_, ?_⟩
  · simp [rangeOf, hlen]
  · omega
  · decide
  · refine ⟨?_, rfl, rfl, rfl⟩
    rw [set_at, Nat.sub_zero, List.drop_length, List.drop_of_length_le (by omega)]; rfl
  · rintro i m' H' hi ⟨h1, h2, h3, rfl⟩
    have hi' : i < bs.length := by unfold rangeLen at hi; rw [if_neg (by decide)] at hi; omega
    obtain ⟨p, hp⟩ : ∃ p, bs.length - i = p + 1 := ⟨bs.length - i - 1, by omega⟩
    have e : (bs.length : Int) - 1 + i * -1 = (p : Int) := by omega
    have hp' : bs.length - (i + 1) = p := by omega
    have hpb : p < bs.length := by omega
    have hpf : p < fs.length := by omega
    rw [e]
    refine ⟨_, (set_ne (by decide)).trans h1, _, (set_ne (by decide)).trans h3, _, set_at, sub_at hb (itemAt_pos (vi_get (List.getElem?_eq_getElem hpb))) ⟨.inr (.inl (hs _ (List.getElem_mem hpb))), _, (set_ne (by decide)).trans h2, _, set_at, sub_at ha (itemAt_pos (vi_get (List.getElem?_eq_getElem hpf))) ⟨?_, ?_, ?_, rfl⟩⟩⟩
    · rw [set_at, hp', hp, List.drop_eq_getElem_cons hpb, List.drop_eq_getElem_cons hpf, whole, Int.mul_comm, Int.add_comm]
    · exact (set_ne (by decide)).trans ((set_ne (by decide)).trans h2)
    · exact (set_ne (by decide)).trans ((set_ne (by decide)).trans h3)
  · rintro m' H' ⟨h1, h2, h3, rfl⟩
    have e : rangeLen ((bs.length : Int) - 1) (-1) (-1) = bs.length := by unfold rangeLen; rw [if_neg (by decide)]; omega
    rw [e, Nat.sub_self, List.drop_zero, List.drop_zero] at h1
    exact ⟨_, h1, h⟩
end Mine
end
section
namespace Mine
open PySem PySem.W PySem.Calls PyProof.Rows

theorem Lib.exc {K : Frag} (L : Lib K) {c : Str} (h : c ∈ (["RestError", "NoBases", "NoRow", "NoNumber", "NoTurn", "OutOfRoom"] : List Str)) : excOk K c = true := List.all_eq_true.mp L.excs c h

theorem c_turned {G : Gd} (L : Lib G.K) {j : Nat} {a b : Int} {H : AHeap} {k : V → AHeap → Prop} {x : XE} (ha : 0 ≤ a) (hb : 1 < b) (hb2 : b ≤ 1000000) (h1 : Int.gcd a b = 1 → ∀ t, 0 ≤ t → t < b → t * a % b = 1 → k (.int t) H) (h2 : Int.gcd a b ≠ 1 → x "NoTurn" H) :
    FnC G j a_turned p_turned [.int a, .int b] H k x := by
  unfold FnC p_turned a_turned
  have hm0 : 0 ≤ a % b := Int.emod_nonneg _ (by omega)
  have hm1 : a % b < b := Int.emod_lt_of_pos _ (by omega)
  refine ⟨_, rfl, _, rfl, _, rfl, by omega, rfl, fun i m' H' => ∃ old new told coming q1 q2 : Int, 0 < old ∧ old ≤ b ∧ 0 ≤ new ∧ new < old ∧ new.toNat = i ∧ Int.gcd old new = Int.gcd a b ∧ told * a - old = q1 * b ∧ coming * a - new = q2 * b ∧
    m' "base" = some (.int b) ∧ m' "old" = some (.int old) ∧ m' "new" = some (.int new) ∧ m' "told" = some (.int told) ∧ m' "coming" = some (.int coming) ∧ H' = H, (a % b).toNat, ?_, ?_⟩
  · refine ⟨b, a % b, 0, 1, -1, a / b, by omega, by omega, hm0, hm1, rfl, ?_, by omega, ?_, rfl, rfl, rfl, rfl, rfl, rfl⟩
    · exact gcd_step ha (by omega)
    · have := Int.emod_add_mul_ediv a b
      rw [Int.mul_comm b] at this
      omega
  · rintro i m' H' ⟨old, new, told, coming, q1, q2, g1, g2, g3, g4, rfl, g5, g6, g7, e1, e2, e3, e4, e5, rfl⟩
    refine ⟨_, e3, fun hv => ?_, fun hv => ?_⟩
    · have hv := of_decide_eq_true hv
      have d1 := Int.emod_add_mul_ediv old new
      have d2 := Int.emod_nonneg old (b := new) (by omega)
      have d3 := Int.emod_lt_of_pos old hv
      have d4 : 0 ≤ old / new := Int.ediv_nonneg (by omega) (by omega)
      have d5 : old / new ≤ old := Int.ediv_le_self _ (by omega)
      have er : old - old / new * new = old % new := by rw [Int.mul_comm]; omega
      have sm : Sm (old / new) := by unfold Sm; omega
      refine s_assign ?_
      simp (disch := decide) only [w_const, w_name, w_bin, b_add, b_sub, b_mul, b_fdiv, b_mod, e1, e2, e3, e4, e5, set_at, set_ne, Option.some.injEq, exists_eq_left']
      refine ⟨hv, by omega, ?_⟩
      refine s_assign ?_
      simp (disch := decide) only [w_const, w_name, w_bin, b_add, b_sub, b_mul, b_fdiv, b_mod, e1, e2, e3, e4, e5, set_at, set_ne, Option.some.injEq, exists_eq_left']
      refine ⟨.inl sm, ?_⟩
      refine s_assign ?_
      simp (disch := decide) only [w_const, w_name, w_bin, b_add, b_sub, b_mul, b_fdiv, b_mod, e1, e2, e3, e4, e5, set_at, set_ne, Option.some.injEq, exists_eq_left']
      refine s_assign ?_
      simp (disch := decide) only [w_const, w_name, w_bin, b_add, b_sub, b_mul, b_fdiv, b_mod, e1, e2, e3, e4, e5, set_at, set_ne, Option.some.injEq, exists_eq_left']
      refine s_assign ?_
      simp (disch := decide) only [w_const, w_name, w_bin, b_add, b_sub, b_mul, b_fdiv, b_mod, e1, e2, e3, e4, e5, set_at, set_ne, Option.some.injEq, exists_eq_left']
      refine ⟨.inl sm, ?_⟩
      refine s_assign ?_
      simp (disch := decide) only [w_const, w_name, w_bin, b_add, b_sub, b_mul, b_fdiv, b_mod, e1, e2, e3, e4, e5, set_at, set_ne, Option.some.injEq, exists_eq_left']
      refine s_assign ?_
      simp (disch := decide) only [w_const, w_name, w_bin, b_add, b_sub, b_mul, b_fdiv, b_mod, e1, e2, e3, e4, e5, set_at, set_ne, Option.some.injEq, exists_eq_left']
      refine s_nil ?_
      rw [er]
      refine ⟨(old % new).toNat, by omega, new, old % new, coming, told - old / new * coming, q2, q1 - old / new * q2, hv, by omega, d2, d3, rfl, ?_, g7, ?_, ?_, ?_, ?_, ?_, ?_, rfl⟩
      · rw [gcd_step (by omega) hv]; exact g5
      · generalize old / new = t at *
        have : old % new = old - t * new := er.symm
        rw [this]
        have e6 : (told - t * coming) * a - (old - t * new) = (told * a - old) - t * (coming * a - new) := by grind
        rw [e6, g6, g7]; grind
      all_goals simp (disch := decide) only [set_at, set_ne, e1]
    · have hv := of_decide_eq_false hv
      have : new = 0 := by omega
      subst this
      rw [Int.gcd_zero_right] at g5
      refine ⟨_, e2, fun hr => ?_, fun hr => ?_⟩
      · refine s_raise rfl (L.exc (by decide)) (h2 fun z => ?_)
        have : old = 1 := by omega
        simp [this] at hr
      · have ho : old = 1 := by simpa using hr
        subst ho
        refine ⟨_, e4, _, e1, by omega, h1 (by rw [← g5]; rfl) _ (Int.emod_nonneg _ (by omega)) (Int.emod_lt_of_pos _ (by omega)) ?_⟩
        have e6 : told % b * a % b = told * a % b := by rw [Int.mul_emod, Int.emod_emod_of_dvd _ (Int.dvd_refl b), ← Int.mul_emod]
        have e7 : told * a = 1 + q1 * b := by omega
        rw [e6, e7, Int.add_mul_emod_self_right]
        exact Int.emod_eq_of_lt (by omega) hb
end Mine
end
section
namespace Mine
open PySem PySem.W PySem.Calls PyProof.Rows

theorem vi_length {ns : List Int} : (vi ns).length = ns.length := by simp [vi]
theorem vi_take {ns : List Int} {i : Nat} : (vi ns).take i = vi (ns.take i) := by simp [vi, List.map_take]
theorem slice_take {H : AHeap} {a : Addr} {vs : List V} {i : Nat} {k : V → AHeap → Prop} (ha : H a = some (.list vs)) (hi : i ≤ vs.length) (h : ∀ c, H c = none → k (.ref c) (H.upd c (.list (vs.take i)))) : wpSlice (.ref a) .none (.int i) H k := by
  refine ⟨vs, 0, i, ha, rfl, ?_, fun c hc => ?_⟩
  · unfold cutHi; dsimp only; rw [if_neg (by omega)]; congr 1; simp; omega
  · rw [List.drop_zero, Nat.sub_zero]; exact h c hc
theorem slice_drop {H : AHeap} {a : Addr} {vs : List V} {i : Nat} {k : V → AHeap → Prop} (ha : H a = some (.list vs)) (hi : i ≤ vs.length) (h : ∀ c, H c = none → k (.ref c) (H.upd c (.list (vs.drop i)))) : wpSlice (.ref a) (.int i) .none H k := by
  refine ⟨vs, i, vs.length, ha, ?_, rfl, fun c hc => ?_⟩
  · unfold cutLo; dsimp only; rw [if_neg (by omega)]; congr 1; simp; omega
  · have := h c hc
    rw [← List.length_drop, List.take_length]; exact this
theorem slice_cut {H : AHeap} {a : Addr} {vs : List V} {i : Nat} {k : V → AHeap → Prop} (ha : H a = some (.list vs)) (hi : 1 ≤ i) (h : ∀ c, H c = none → k (.ref c) (H.upd c (.list (vs.take (vs.length - i))))) : wpSlice (.ref a) .none (.int (-(i : Int))) H k := by
  refine ⟨vs, 0, vs.length - i, ha, rfl, ?_, fun c hc => ?_⟩
  · unfold cutHi; dsimp only; rw [if_pos (by omega)]; congr 2; omega
  · rw [List.drop_zero, Nat.sub_zero]; exact h c hc
theorem Ext.upd {H H' : AHeap} {c : Addr} {o : AObj} (h : Ext H H') (hc : H c = none) : Ext H (H'.upd c o) := fun a o' e => by
  unfold AHeap.upd
  split
  · rename_i q; subst q; rw [hc] at e; cases e
  · exact h a o' e
theorem Ext.fresh {H H' : AHeap} {c : Addr} (h : Ext H H') (hc : H' c = none) : H c = none := by
  cases e : H c with
  | none => rfl
  | some o => rw [h c o e] at hc; cases hc
theorem Ext.ne {H : AHeap} {a c : Addr} {o : AObj} (ha : H a = some o) (hc : H c = none) : a ≠ c := by rintro rfl; rw [ha] at hc; cases hc
theorem len_at {hd : Bool} {H : AHeap} {a : Addr} {vs : List V} {k : V → AHeap → Prop} (ha : H a = some (.list vs)) (h : k (.int vs.length) H) : wpBi hd "len" [.ref a] H k := by
  unfold wpBi; dsimp only; rw [ha]; exact .inl ⟨rfl, h⟩
theorem append_at' {G : Gd} {n : Nat} {H1 H : AHeap} {a : Addr} {us us1 : List V} {v : V} {k : V → AHeap → Prop} {x : XE} (h1 : H1 a = some (.list us1)) (ha : H a = some (.list us)) (hl : us.length < 1000) (h : k .none (H.upd a (.list (us ++ [v])))) : wpMeth G n (.ref a) "append" [v] H1 H k x := by
  unfold wpMeth; dsimp only; rw [h1]; exact ⟨us, v, ha, rfl, hl, h⟩
theorem methPre_list {G : Gd} {H : AHeap} {a : Addr} {vs : List V} (ha : H a = some (.list vs)) : methPre G (.ref a) "append" H := by
  unfold methPre; dsimp only; rw [ha]
theorem sm_base {bs : List Int} (h : BOk bs) : ∀ b ∈ bs, Sm b := fun b hb => by have := h.rng b hb; unfold Sm; omega
theorem sm_take {bs : List Int} {i : Nat} (h : ∀ b ∈ bs, Sm b) : ∀ b ∈ bs.take i, Sm b := fun b hb => h b (List.mem_of_mem_take hb)

theorem cop_weight {bs : List Int} (h : BOk bs) {i : Nat} {b : Int} (hb : bs[i]? = some b) : Cop b (bs.take i).prod := by
  refine cop_prod fun c hc => ?_
  obtain ⟨hi, rfl⟩ := List.getElem?_eq_some_iff.mp hb
  obtain ⟨q, hq, e⟩ := List.mem_take_iff_getElem.mp hc
  rw [← e]
  have := List.pairwise_iff_getElem.mp h.cop q i (by omega) hi (by omega)
  exact this.symm
theorem gcd_weight {b P : Int} (hb : 1 < b) (h : Cop b P) : Int.gcd (P % b) b = 1 := by
  have h0 := Int.emod_nonneg P (b := b) (by omega)
  obtain ⟨u, v, e⟩ := h
  have hd := Int.emod_add_mul_ediv P b
  have : Cop (P % b) b := ⟨v, u + v * (P / b), by
    generalize P / b = q at *
    generalize P % b = r at *
    subst hd
    grind⟩
  obtain ⟨r, hr⟩ := Int.eq_ofNat_of_zero_le h0
  obtain ⟨c, hc⟩ := Int.eq_ofNat_of_zero_le (show 0 ≤ b by omega)
  rw [hr, hc] at this ⊢
  rw [Int.gcd_natCast_natCast]
  exact gcd_of_cop this

theorem c_figures_of {G : Gd} (L : Lib G.K) {j : Nat} (hj : 2 ≤ j) {r b : Addr} {rs bs : List Int} {H : AHeap} {k : V → AHeap → Prop} {x : XE} (hr : H r = some (.list (vi rs))) (hb : H b = some (.list (vi bs))) (ok : BOk bs) (hl : rs.length = bs.length) (hl2 : bs.length ≤ 900)
    (h : ∀ c H', Ext H H' → H c = none → H' c = some (.list (vi (digits (crt rs bs) bs))) → k (.ref c) H') : FnC G j a_figures_of p_figures_of [.ref r, .ref b] H k x := by
  unfold FnC p_figures_of a_figures_of
  refine s_assign ?_
  refine ⟨by simp, fun c0 hc0 => ?_⟩
  refine ⟨rfl, ?_⟩
  simp only [l_cons, l_nil, w_bi, w_name]
  refine ⟨_, rfl, len_at ((Ext.new hc0) _ _ hb) ?_⟩
  have hpos := ok.pos
  have X := crt_is ok hl
  generalize hx : crt rs bs = y at h X
  have hdl : (digits y bs).length = bs.length := digits_length bs y
  refine ⟨0, (bs.length : Int), 1, by rw [vi_length]; rfl, by decide, by omega, fun i m' H' => m' "found" = some (.ref c0) ∧ m' "row" = some (.ref r) ∧ m' "bases" = some (.ref b) ∧ Ext H H' ∧ H' c0 = some (.list (vi ((digits y bs).take i))), ?_, ?_, ?_⟩
  · exact ⟨rfl, rfl, rfl, Ext.new hc0, upd_at⟩
  · rintro i m' H' hi ⟨e1, e2, e3, e4, e5⟩
    have hi : i < bs.length := by unfold rangeLen at hi; rw [if_pos rfl] at hi; omega
    have ei : (0 : Int) + i * 1 = (i : Int) := by omega
    rw [ei]
    obtain ⟨bi, hbi⟩ : ∃ bi, bs[i]? = some bi := ⟨_, List.getElem?_eq_getElem hi⟩
    obtain ⟨ri, hri⟩ : ∃ ri, rs[i]? = some ri := ⟨_, List.getElem?_eq_getElem (by omega)⟩
    have hbr := ok.rng bi (List.mem_of_getElem? hbi)
    have hdi := digits_get bs y i hpos hi
    rw [show bs[i] = bi by have := (List.getElem?_eq_some_iff.mp hbi).2; exact this] at hdi
    have sm := sm_base ok
    refine s_assign ?_
    simp only [w_sub, w_name]
    refine ⟨_, (set_ne (by decide)).trans e3, _, set_at, sub_at (e4 _ _ hb) (itemAt_pos (vi_get hbi)) ?_⟩
    refine s_assign (wpE_call L.whole_of (by omega) ?_)
    simp only [l_cons, l_nil, w_slice, w_name, w_const]
    refine ⟨_, (set_ne (by decide)).trans ((set_ne (by decide)).trans e1), _, (set_ne (by decide)).trans ((set_ne (by decide)).trans e3), _, (set_ne (by decide)).trans set_at, slice_take (e4 _ _ hb) (by rw [vi_length]; omega) fun c1 hc1 => ⟨rfl, ?_⟩⟩
    have hne1 : c0 ≠ c1 := Ext.ne e5 hc1
    refine c_whole_of (fs := (digits y bs).take i) (bs := bs.take i) ((upd_ne hne1).trans e5) (by rw [upd_at, vi_take]) (by rw [List.length_take, List.length_take, hdl]) (by rw [List.length_take]; omega) (sm_take sm) ?_
    rw [whole_digits_take bs y i hpos]
    have E1 : Ext H (H'.upd c1 (.list (List.take i (vi bs)))) := e4.trans (Ext.new hc1)
    refine s_assign ?_
    rw [w_bin]
    refine wpE_call L.product (by omega) ?_
    simp only [l_cons, l_nil, w_slice, w_name, w_const]
    refine ⟨_, (set_ne (by decide)).trans ((set_ne (by decide)).trans ((set_ne (by decide)).trans e3)), _, (set_ne (by decide)).trans ((set_ne (by decide)).trans set_at), slice_take (E1 _ _ hb) (by rw [vi_length]; omega) fun c2 hc2 => ⟨rfl, ?_⟩⟩
    refine c_product (ns := bs.take i) (by rw [upd_at, vi_take]) (sm_take sm) ?_
    generalize hP : (bs.take i).prod = Pr
    have E2 := E1.trans (Ext.new (o := .list (List.take i (vi bs))) hc2)
    have hc0' : ((H'.upd c1 (.list (List.take i (vi bs)))).upd c2 (.list (List.take i (vi bs)))) c0 = some (.list (vi ((digits y bs).take i))) := by
      have h1 : (H'.upd c1 (.list (List.take i (vi bs)))) c0 = some (.list (vi ((digits y bs).take i))) := (upd_ne hne1).trans e5
      rw [upd_ne (Ext.ne h1 hc2)]; exact h1
    generalize ((H'.upd c1 (.list (List.take i (vi bs)))).upd c2 (.list (List.take i (vi bs)))) = H2 at E2 hc0'
    refine ⟨_, (set_ne (by decide)).trans set_at, by omega, ?_⟩
    refine s_assign ?_
    simp only [w_bin, w_sub, w_name]
    refine ⟨_, (set_ne (by decide)).trans ((set_ne (by decide)).trans ((set_ne (by decide)).trans ((set_ne (by decide)).trans e2))), _, (set_ne (by decide)).trans ((set_ne (by decide)).trans ((set_ne (by decide)).trans set_at)), sub_at (E2 _ _ hr) (itemAt_pos (vi_get hri)) ⟨_, (set_ne (by decide)).trans set_at, _, (set_ne (by decide)).trans ((set_ne (by decide)).trans set_at), by omega, ?_⟩⟩
    refine s_expr ?_
    rw [w_meth, w_name]
    refine ⟨rfl, _, (set_ne (by decide)).trans ((set_ne (by decide)).trans ((set_ne (by decide)).trans ((set_ne (by decide)).trans ((set_ne (by decide)).trans e1)))), methPre_list hc0', ?_⟩
    rw [l_cons, w_bin, w_bin, w_name]
    refine ⟨_, set_at, wpE_call L.turned (by omega) ?_⟩
    simp only [l_cons, l_nil, w_name]
    refine ⟨_, (set_ne (by decide)).trans set_at, _, (set_ne (by decide)).trans ((set_ne (by decide)).trans ((set_ne (by decide)).trans set_at)), rfl, ?_⟩
    have cw := cop_weight ok hbi
    rw [hP] at cw
    have gw := gcd_weight (by omega) cw
    refine c_turned L (Int.emod_nonneg _ (by omega)) (by omega) (by omega) (fun _ t t0 t1 t2 => ?_) fun z => absurd gw z
    have l0 := Int.emod_nonneg (ri - y % Pr) (b := bi) (by omega)
    have l1 := Int.emod_lt_of_pos (ri - y % Pr) (b := bi) (by omega)
    simp only [b_mul, w_name]
    refine ⟨.inl (by unfold Sm; omega), _, (set_ne (by decide)).trans ((set_ne (by decide)).trans ((set_ne (by decide)).trans set_at)), by omega, ?_⟩
    have hfig := figure_step (x := y) (r := ri) (b := bi) (P := Pr) (inv := t) (by omega) (X.res.get hri hbi) (by rw [t2, Int.emod_eq_of_lt (by omega) (by omega)])
    refine append_at' hc0' hc0' (by rw [vi_length, List.length_take]; omega) (s_nil ⟨?_, ?_, ?_, E2.upd hc0, ?_⟩)
    · exact (set_ne (by decide)).trans ((set_ne (by decide)).trans ((set_ne (by decide)).trans ((set_ne (by decide)).trans ((set_ne (by decide)).trans e1))))
    · exact (set_ne (by decide)).trans ((set_ne (by decide)).trans ((set_ne (by decide)).trans ((set_ne (by decide)).trans ((set_ne (by decide)).trans e2))))
    · exact (set_ne (by decide)).trans ((set_ne (by decide)).trans ((set_ne (by decide)).trans ((set_ne (by decide)).trans ((set_ne (by decide)).trans e3))))
    · rw [upd_at, hfig, List.take_succ, hdi, hP]
      simp [vi]
  · rintro m' H' ⟨e1, e2, e3, e4, e5⟩
    have e : rangeLen 0 (bs.length : Int) 1 = bs.length := by unfold rangeLen; rw [if_pos rfl]; omega
    rw [e, List.take_of_length_le (by omega)] at e5
    exact ⟨_, e1, h c0 H' e4 hc0 e5⟩
end Mine
end
section
namespace Mine
open PySem PySem.W PySem.Calls PyProof.Rows

theorem glob_at {G : Gd} {f : Str} {i : Int} {k : V → Prop} (N : Num G.K f i) (h : k (.int i)) : wpGlob G f k := by obtain ⟨t, e⟩ := N; exact ⟨i, t, e, h⟩
theorem is_list {G : Gd} {H : AHeap} {a : Addr} {vs : List V} {k : Bool → Prop} (ha : H a = some (.list vs)) (h : k true) : wpIs G (.ref a) "list" H k := by unfold wpIs; dsimp only; rw [ha]; exact .inr (.inr (.inl ⟨rfl, h⟩))
theorem is_int {G : Gd} {H : AHeap} {i : Int} {k : Bool → Prop} (h : k true) : wpIs G (.int i) "int" H k := .inl ⟨rfl, h⟩
theorem is_bool {G : Gd} {H : AHeap} {i : Int} {k : Bool → Prop} (h : k false) : wpIs G (.int i) "bool" H k := .inr (.inl ⟨rfl, h⟩)


/-- a tree that turns nothing -/
noncomputable def Ev (G : Gd) (n : Nat) (hd : Bool) (m : AMap) (H : AHeap) (e : P) (v : V) : Prop := ∀ (k : V → AHeap → Prop) (x : XE), k v H → wpE G n hd e m H k x
section
variable {G : Gd} {n : Nat} {hd : Bool} {m : AMap} {H : AHeap} {a b c l : P} {i j t : Int} {p q r : Bool} {y : Str} {v : V}
theorem ev_const : Ev G n hd m H (.const v) v := fun _ _ h => h
theorem ev_name (h : m y = some v) : Ev G n hd m H (.name y) v := fun _ _ hk => ⟨v, h, hk⟩
theorem ev_glob (N : Num G.K y i) : Ev G n hd m H (.glob y) (.int i) := fun _ _ hk => glob_at N hk
theorem ev_add (ha : Ev G n hd m H a (.int i)) (hb : Ev G n hd m H b (.int j)) : Ev G n hd m H (.bin .add a b) (.int (i + j)) := fun _ _ h => ha _ _ (hb _ _ h)
theorem ev_minus (ha : Ev G n hd m H a (.int i)) (hb : Ev G n hd m H b (.int j)) : Ev G n hd m H (.bin .sub a b) (.int (i - j)) := fun _ _ h => ha _ _ (hb _ _ h)
theorem ev_mul (ha : Ev G n hd m H a (.int i)) (hb : Ev G n hd m H b (.int j)) (hm : MulOk i j) : Ev G n hd m H (.bin .mul a b) (.int (i * j)) := fun _ _ h => ha _ _ (hb _ _ ⟨hm, h⟩)
theorem ev_mod (ha : Ev G n hd m H a (.int i)) (hb : Ev G n hd m H b (.int j)) (hm : 0 < j) : Ev G n hd m H (.bin .mod a b) (.int (i % j)) := fun _ _ h => ha _ _ (hb _ _ ⟨hm, h⟩)
theorem ev_fdiv (ha : Ev G n hd m H a (.int i)) (hb : Ev G n hd m H b (.int j)) (hm : 0 < j) (hj : j < 10 ^ 100) : Ev G n hd m H (.bin .fdiv a b) (.int (i / j)) := fun _ _ h => ha _ _ (hb _ _ ⟨hm, hj, h⟩)
theorem ev_neg (ha : Ev G n hd m H a (.int i)) : Ev G n hd m H (.neg a) (.int (-i)) := fun _ _ h => ha _ _ ⟨i, rfl, h⟩
theorem ev_not (ha : Ev G n hd m H a (.bool p)) : Ev G n hd m H (.not a) (.bool (!p)) := fun _ _ h => ha _ _ h
theorem ev_and (ha : Ev G n hd m H a (.bool p)) (hb : p = true → Ev G n hd m H b (.bool q)) : Ev G n hd m H (.and a b) (.bool (p && q)) := fun _ _ h => ha _ _ ⟨fun e => hb e _ _ (by rw [e, Bool.true_and] at h; exact h), fun e => by rw [e, Bool.false_and] at h; rw [e]; exact h⟩
theorem ev_or (ha : Ev G n hd m H a (.bool p)) (hb : p = false → Ev G n hd m H b (.bool q)) : Ev G n hd m H (.or a b) (.bool (p || q)) := fun _ _ h => ha _ _ ⟨fun e => hb e _ _ (by rw [e, Bool.false_or] at h; exact h), fun e => by rw [e, Bool.true_or] at h; rw [e]; exact h⟩
theorem ev_lt (ha : Ev G n hd m H a (.int i)) (hb : Ev G n hd m H b (.int j)) : Ev G n hd m H (.cmp .lt a b) (.bool (decide (i < j))) := fun _ _ h => ha _ _ (hb _ _ h)
theorem ev_le (ha : Ev G n hd m H a (.int i)) (hb : Ev G n hd m H b (.int j)) : Ev G n hd m H (.cmp .le a b) (.bool (decide (i ≤ j))) := fun _ _ h => ha _ _ (hb _ _ h)
theorem ev_gt (ha : Ev G n hd m H a (.int i)) (hb : Ev G n hd m H b (.int j)) : Ev G n hd m H (.cmp .gt a b) (.bool (decide (j < i))) := fun _ _ h => ha _ _ (hb _ _ h)
theorem ev_ge (ha : Ev G n hd m H a (.int i)) (hb : Ev G n hd m H b (.int j)) : Ev G n hd m H (.cmp .ge a b) (.bool (decide (j ≤ i))) := fun _ _ h => ha _ _ (hb _ _ h)
theorem ev_eq (ha : Ev G n hd m H a (.int i)) (hb : Ev G n hd m H b (.int j)) : Ev G n hd m H (.cmp .eq a b) (.bool (decide (i = j))) := fun _ _ h => ha _ _ (hb _ _ h)
theorem ev_ne (ha : Ev G n hd m H a (.int i)) (hb : Ev G n hd m H b (.int j)) : Ev G n hd m H (.cmp .ne a b) (.bool (!decide (i = j))) := fun _ _ h => ha _ _ (hb _ _ h)
theorem ev_lele (ha : Ev G n hd m H a (.int i)) (hb : Ev G n hd m H b (.int j)) (hc : Ev G n hd m H c (.int t)) : Ev G n hd m H (.cmp2 .le .le a b c) (.bool (decide (i ≤ j) && decide (j ≤ t))) := fun _ _ h => ha _ _ (hb _ _ ⟨fun e => by rw [e, Bool.false_and] at h; exact h, fun e => hc _ _ (by rw [e, Bool.true_and] at h; exact h)⟩)
theorem ev_lelt (ha : Ev G n hd m H a (.int i)) (hb : Ev G n hd m H b (.int j)) (hc : Ev G n hd m H c (.int t)) : Ev G n hd m H (.cmp2 .le .lt a b c) (.bool (decide (i ≤ j) && decide (j < t))) := fun _ _ h => ha _ _ (hb _ _ ⟨fun e => by rw [e, Bool.false_and] at h; exact h, fun e => hc _ _ (by rw [e, Bool.true_and] at h; exact h)⟩)
theorem ev_len {d : Addr} {vs : List V} (ha : Ev G n hd m H a (.ref d)) (hd' : H d = some (.list vs)) : Ev G n hd m H (.bi "len" (.cons a .nil)) (.int vs.length) := fun _ _ h => ha _ _ (len_at hd' h)
theorem ev_item {d : Addr} {vs : List V} (ha : Ev G n hd m H a (.ref d)) (hb : Ev G n hd m H b (.int i)) (hd' : H d = some (.list vs)) (hv : itemAt vs i = some v) : Ev G n hd m H (.sub a b) v := fun _ _ h => ha _ _ (hb _ _ (sub_at hd' hv h))
theorem ev_isList {d : Addr} {vs : List V} (ha : Ev G n hd m H a (.ref d)) (hd' : H d = some (.list vs)) : Ev G n hd m H (.isinst a "list") (.bool true) := fun _ _ h => ha _ _ (is_list hd' h)
theorem ev_isInt (ha : Ev G n hd m H a (.int i)) : Ev G n hd m H (.isinst a "int") (.bool true) := fun _ _ h => ha _ _ (is_int h)
theorem ev_isBool (ha : Ev G n hd m H a (.int i)) : Ev G n hd m H (.isinst a "bool") (.bool false) := fun _ _ h => ha _ _ (is_bool h)
theorem ev_bases {d f : Addr} (ha : Ev G n hd m H a (.ref d)) (hd' : H d = some (.board (some f))) : Ev G n hd m H (.attr a "bases") (.ref f) := fun _ _ h => ha _ _ ⟨rfl, f, hd', h⟩
variable {kn : AMap → AHeap → Prop} {kr : V → AHeap → Prop} {x : XS}
theorem s_if (ha : Ev G n hd m H a (.bool p)) (ht : p = true → wpS G n hd b m H (fun m' H' => wpS G n hd l m' H' kn kr x) kr x) (hf : p = false → wpS G n hd c m H (fun m' H' => wpS G n hd l m' H' kn kr x) kr x) : wpS G n hd (.cons (.ite a b c) l) m H kn kr x := ha _ _ ⟨ht, hf⟩
theorem s_set (ha : Ev G n hd m H a v) (h : wpS G n hd l (m.set y v) H kn kr x) : wpS G n hd (.cons (.assign y a) l) m H kn kr x := ha _ _ h
theorem s_return (ha : Ev G n hd m H a v) (h : kr v H) : wpS G n hd (.cons (.ret a) l) m H kn kr x := ha _ _ h
end

/-- what holds of the first i bases -/
noncomputable def Pre (bs : List Int) (i : Nat) : Prop := ∀ p, p < i → ∀ b, bs[p]? = some b → (3 ≤ b ∧ b ≤ 999999) ∧ b % 2 = 1 ∧ (∀ q, p = q + 1 → ∀ c, bs[q]? = some c → c < b) ∧ ∀ q, q < p → ∀ c, bs[q]? = some c → Cop b c
theorem Pre.good {bs : List Int} (h : Pre bs bs.length) (hl : 3 ≤ bs.length ∧ bs.length ≤ 14) : Good bs := by
  have get : ∀ b ∈ bs, ∃ p, p < bs.length ∧ bs[p]? = some b := fun b hb => by
    obtain ⟨p, hp, e⟩ := List.mem_iff_getElem.mp hb
    exact ⟨p, hp, by rw [List.getElem?_eq_getElem hp, e]⟩
  refine ⟨hl, fun b hb => ?_, fun b hb => ?_, ?_, ?_⟩
  · obtain ⟨p, hp, e⟩ := get b hb; exact (h p hp b e).1
  · obtain ⟨p, hp, e⟩ := get b hb; exact (h p hp b e).2.1
  · rw [List.pairwise_iff_getElem]
    have key : ∀ d i j (hi : i < bs.length) (hj : j < bs.length), j = i + d + 1 → bs[i] < bs[j] := by
      intro d
      induction d with
      | zero => intro i j hi hj e; exact (h j hj _ (List.getElem?_eq_getElem hj)).2.2.1 i (by omega) _ (List.getElem?_eq_getElem hi)
      | succ d ih =>
        intro i j hi hj e
        have h1 := ih i (j - 1) hi (by omega) (by omega)
        have h2 := (h j hj _ (List.getElem?_eq_getElem hj)).2.2.1 (j - 1) (by omega) _ (List.getElem?_eq_getElem (by omega))
        omega
    intro i j hi hj hij
    exact key (j - i - 1) i j hi hj (by omega)
  · rw [List.pairwise_iff_getElem]
    intro i j hi hj hij
    exact ((h j hj _ (List.getElem?_eq_getElem hj)).2.2.2 i hij _ (List.getElem?_eq_getElem hi)).symm
theorem Good.pre {bs : List Int} (h : Good bs) (i : Nat) : Pre bs i := by
  intro p _ b hb
  have hm := List.mem_of_getElem? hb
  obtain ⟨hp, rfl⟩ := List.getElem?_eq_some_iff.mp hb
  refine ⟨h.rng _ hm, h.odd _ hm, fun q e c hc => ?_, fun q hq c hc => ?_⟩
  · obtain ⟨hq, rfl⟩ := List.getElem?_eq_some_iff.mp hc
    exact List.pairwise_iff_getElem.mp h.rise q p hq hp (by omega)
  · obtain ⟨hq', rfl⟩ := List.getElem?_eq_some_iff.mp hc
    exact (List.pairwise_iff_getElem.mp h.cop q p hq' hp hq).symm
theorem gcd_cop {a b : Int} (ha : 0 ≤ a) (hb : 0 ≤ b) : Int.gcd a b = 1 ↔ Cop a b := by
  obtain ⟨r, rfl⟩ := Int.eq_ofNat_of_zero_le ha
  obtain ⟨c, rfl⟩ := Int.eq_ofNat_of_zero_le hb
  rw [Int.gcd_natCast_natCast]
  exact ⟨cop_of_gcd, gcd_of_cop⟩

noncomputable def tailP : P → P
  | .cons _ l => l
  | p => p
theorem ab_loop {G : Gd} (L : Lib G.K) {j : Nat} (hj : 2 ≤ j) {b : Addr} {bs : List Int} {H : AHeap} {m : AMap} {k : V → AHeap → Prop} {kn : AMap → AHeap → Prop} {x : XS} (hb : H b = some (.list (vi bs))) (hm : m "bases" = some (.ref b)) (hl : 3 ≤ bs.length ∧ bs.length ≤ 14)
    (h1 : Good bs → ∀ H', Ext H H' → k (.bool true) H') (h2 : ¬ Good bs → ∀ H', Ext H H' → k (.bool false) H') : wpS G j false (tailP p_are_bases) m H kn k x := by
  unfold p_are_bases tailP
  dsimp only
  refine ⟨rfl, ?_⟩
  simp only [l_cons, l_nil, w_bi, w_name]
  refine ⟨_, hm, len_at hb ⟨0, (bs.length : Int), 1, by rw [vi_length]; rfl, by decide, by omega, fun i m' H' => m' "bases" = some (.ref b) ∧ Ext H H' ∧ Pre bs i, ⟨hm, Ext.refl, fun p hp => (by omega)⟩, ?_, ?_⟩⟩
  · rintro i m' H' hi ⟨e1, e2, e3⟩
    have hi : i < bs.length := by unfold rangeLen at hi; rw [if_pos rfl] at hi; omega
    have ei : (0 : Int) + i * 1 = (i : Int) := by omega
    rw [ei]
    obtain ⟨bi, hbi⟩ : ∃ bi, bs[i]? = some bi := ⟨_, List.getElem?_eq_getElem hi⟩
    have hb' := e2 _ _ hb
    refine s_set (ev_item (ev_name ((set_ne (by decide)).trans e1)) (ev_name set_at) hb' (itemAt_pos (vi_get hbi))) ?_
    have bad : ¬ Good bs → ∀ {m2 : AMap} {H2 : AHeap} {kn2 : AMap → AHeap → Prop} {x2 : XS}, Ext H H2 → wpS G j false (.cons (.ret (.const (.bool false))) .nil) m2 H2 kn2 k x2 := fun hg m2 H2 kn2 x2 e => h2 hg H2 e
    have gi : Good bs → _ := fun g => g.pre (i + 1) i (by omega) bi hbi
    have nb : ((m'.set "at" (.int i)).set "base" (.int bi)) "base" = some (.int bi) := set_at
    have na : ((m'.set "at" (.int i)).set "base" (.int bi)) "at" = some (.int i) := (set_ne (by decide)).trans set_at
    have nbs : ((m'.set "at" (.int i)).set "base" (.int bi)) "bases" = some (.ref b) := (set_ne (by decide)).trans ((set_ne (by decide)).trans e1)
    refine s_if (ev_or (ev_not (ev_lele ev_const (ev_name nb) (ev_glob L.greatest))) fun _ => ev_eq (ev_mod (ev_name nb) ev_const (by decide)) ev_const) (fun z => bad (fun g => ?_) e2) fun z => s_nil ?_
    · have := gi g
      simp at z
      omega
    simp at z
    obtain ⟨z1, z2⟩ := z
    have hprev : ∀ q, i = q + 1 → ∃ c, bs[q]? = some c ∧ itemAt (vi bs) ((i : Int) - 1) = some (.int c) := fun q e => by
      obtain ⟨c, hc⟩ : ∃ c, bs[q]? = some c := ⟨_, List.getElem?_eq_getElem (by omega)⟩
      refine ⟨c, hc, ?_⟩
      rw [show (i : Int) - 1 = (q : Int) by omega]
      exact itemAt_pos (vi_get hc)
    obtain ⟨pv, hpv, hpv2⟩ : ∃ pv : Int, (0 < (i : Int) → itemAt (vi bs) ((i : Int) - 1) = some (.int pv)) ∧ ∀ q, i = q + 1 → bs[q]? = some pv := by
      by_cases h0 : i = 0
      · exact ⟨0, fun h => (by omega), fun q e => (by omega)⟩
      · obtain ⟨c, hc1, hc2⟩ := hprev (i - 1) (by omega)
        exact ⟨c, fun _ => hc2, fun q e => by rw [show q = i - 1 by omega]; exact hc1⟩
    refine s_if (ev_and (ev_gt (ev_name na) ev_const) fun z => ev_ge (ev_item (ev_name nbs) (ev_minus (ev_name na) ev_const) hb' (hpv (of_decide_eq_true z))) (ev_name nb)) (fun z => bad (fun g => ?_) e2) fun z => s_nil ?_
    · have := (gi g).2.2.1 (i - 1)
      simp at z
      have := this (by omega) pv (hpv2 _ (by omega))
      omega
    simp only [Bool.and_eq_false_iff, decide_eq_false_iff_not] at z
    -- the loop over those before
    refine ⟨rfl, ?_⟩
    simp only [w_slice, w_name, w_const]
    refine ⟨_, nbs, _, na, slice_take hb' (by rw [vi_length]; omega) fun c1 hc1 => ?_⟩
    rw [vi_take]
    refine ⟨c1, vi (bs.take i), rfl, upd_at, fun q m2 H2 => m2 "bases" = some (.ref b) ∧ m2 "base" = some (.int bi) ∧ H2 = H'.upd c1 (.list (vi (bs.take i))) ∧ ∀ p, p < q → ∀ c, (bs.take i)[p]? = some c → Cop bi c, ⟨nbs, nb, rfl, fun p hp => (by omega)⟩, ?_, ?_⟩
    · rintro q v m2 H2 hv ⟨f1, f2, rfl, f3⟩
      refine ⟨upd_at, ?_⟩
      obtain ⟨u, hu, rfl⟩ : ∃ u, (bs.take i)[q]? = some u ∧ v = .int u := by
        unfold vi at hv; rw [List.getElem?_map, Option.map_eq_some_iff] at hv; obtain ⟨u, g1, g2⟩ := hv; exact ⟨u, g1, g2.symm⟩
      have hq : q < i := by have := (List.getElem?_eq_some_iff.mp hu).1; rw [List.length_take] at this; omega
      have hu' : bs[q]? = some u := by rw [List.getElem?_take_of_lt hq] at hu; exact hu
      have hur := (e3 q hq u hu').1
      have E1 : Ext H (H'.upd c1 (.list (vi (bs.take i)))) := e2.trans (Ext.new hc1)
      refine s_if (p := !decide (((Int.gcd bi u : Nat) : Int) = 1)) (ev_ne (fun k' x' hk => wpE_call L.common (by omega) ⟨_, (set_ne (by decide)).trans f2, _, set_at, rfl, c_common (by omega) (by omega) hk⟩) ev_const) (fun z => bad (fun g => ?_) E1) fun z => s_nil (s_nil ⟨⟨(set_ne (by decide)).trans f1, (set_ne (by decide)).trans f2, rfl, fun p hp c hc => ?_⟩, upd_at⟩)
      · have := (gi g).2.2.2 q hq u hu'
        rw [← gcd_cop (by omega) (by omega)] at this
        simp [this] at z
      · by_cases e : p = q
        · subst e
          rw [hu] at hc; cases hc
          rw [← gcd_cop (by omega) (by omega)]
          have : ((Int.gcd bi u : Nat) : Int) = 1 := by simpa using z
          omega
        · exact f3 p (by omega) c hc
    · rintro m2 H2 ⟨f1, f2, rfl, f3⟩
      refine s_nil ⟨f1, e2.trans (Ext.new hc1), fun p hp c hc => ?_⟩
      by_cases e : p = i
      · subst e
        rw [hbi] at hc; cases hc
        refine ⟨⟨z1.1, z1.2⟩, by omega, fun q e c hc => ?_, fun q hq c hc => ?_⟩
        · have := hpv2 q e
          rw [hc] at this; cases this
          omega
        · exact f3 q (by rw [vi_length, List.length_take]; omega) c (by rw [List.getElem?_take_of_lt hq]; exact hc)
      · exact e3 p (by omega) c hc
  · rintro m' H' ⟨e1, e2, e3⟩
    have e : rangeLen 0 (bs.length : Int) 1 = bs.length := by unfold rangeLen; rw [if_pos rfl]; omega
    rw [e] at e3
    exact h1 (e3.good hl) H' e2
theorem c_are_bases {G : Gd} (L : Lib G.K) {j : Nat} (hj : 2 ≤ j) {b : Addr} {bs : List Int} {H : AHeap} {k : V → AHeap → Prop} {x : XE} (hb : H b = some (.list (vi bs)))
    (h1 : Good bs → ∀ H', Ext H H' → k (.bool true) H') (h2 : ¬ Good bs → ∀ H', Ext H H' → k (.bool false) H') : FnC G j a_are_bases p_are_bases [.ref b] H k x := by
  unfold FnC p_are_bases a_are_bases
  refine s_if (ev_or (ev_not (ev_isList (ev_name rfl) hb)) fun _ => ev_not (ev_lele (ev_glob L.fewest) (ev_len (ev_name rfl) hb) (ev_glob L.most))) (fun z => ?_) fun z => s_nil ?_
  · refine h2 (fun g => ?_) H Ext.refl
    have := g.len
    simp [vi_length] at z
    omega
  · simp [vi_length] at z
    exact ab_loop L hj hb rfl (by omega) h1 h2
end Mine
end
section
namespace Mine
open PySem PySem.W PySem.Calls PyProof.Rows

theorem only_at {m : AMap} {fv : List Str} {z : Str} (h : z ∈ fv) : (m.only fv) z = m z := if_pos h
structure IsBoard (H : AHeap) (s : Addr) (bs : List Int) : Prop where
  good : Good bs
  ex : ∃ f, H s = some (.board (some f)) ∧ H f = some (.list (vi bs))
theorem IsBoard.ext {H H' : AHeap} {s : Addr} {bs : List Int} (h : IsBoard H s bs) (e : Ext H H') : IsBoard H' s bs := by
  obtain ⟨g, f, h1, h2⟩ := h; exact ⟨g, f, e _ _ h1, e _ _ h2⟩
theorem Good.len' {bs : List Int} (h : Good bs) : bs.length ≤ 14 := h.len.2

theorem s_setAttr {G : Gd} {n : Nat} {hd : Bool} {m : AMap} {H : AHeap} {o e l : P} {f : Str} {kn : AMap → AHeap → Prop} {kr : V → AHeap → Prop} {x : XS}
    (h : wpE G n hd e m H (fun v H1 => wpE G n hd o m H1 (fun u H2 => ∃ a l', u = .ref a ∧ v = .ref l' ∧ f = "bases" ∧ H2 a = some (.board Option.none) ∧ wpS G n hd l m (H2.upd a (.board (some l'))) kn kr x) (fun c => x c m)) (fun c => x c m)) : wpS G n hd (.cons (.setAttr o f e) l) m H kn kr x := h
section
variable {G : Gd} {j n : Nat} {H : AHeap} {k : V → AHeap → Prop} {x : XE} {s b r : Addr} {bs rs : List Int}

theorem comp_map {it e : P} {y : Str} {fv : List Str} {m : AMap} {a : Addr} (f : Int → Int) (hit : Ev G n false m H it (.ref a)) (ha : H a = some (.list (vi bs))) (hel : ∀ b ∈ bs, ∀ (k : V → AHeap → Prop), k (.int (f b)) H → wpE G n false e ((m.only fv).set y (.int b)) H k fun _ _ => False)
    (h : ∀ c, H c = none → k (.ref c) (H.upd c (.list (vi (bs.map f))))) : wpE G n false (.comp false e y fv it (.const (.bool true))) m H k x := by
  refine ⟨rfl, hit _ _ ⟨a, vi bs, rfl, ha, fun i ys H' => ys = vi ((bs.take i).map f) ∧ H' = H, ⟨rfl, rfl⟩, ?_, ?_⟩⟩
  · rintro i v ys H' hv ⟨rfl, rfl⟩
    obtain ⟨u, hu, rfl⟩ : ∃ u, bs[i]? = some u ∧ v = .int u := by
      unfold vi at hv; rw [List.getElem?_map, Option.map_eq_some_iff] at hv; obtain ⟨u, g1, g2⟩ := hv; exact ⟨u, g1, g2.symm⟩
    refine ⟨by simp [vi]; omega, ha, fun _ => hel u (List.mem_of_getElem? hu) _ ⟨?_, rfl⟩, fun z => by cases z⟩
    rw [List.take_succ, hu]; simp [vi]
  · rintro ys H' ⟨rfl, rfl⟩
    refine ⟨ha, fun c hc => ?_⟩
    rw [vi_length, List.take_length]; exact h c hc

theorem c_init (L : Lib G.K) (hj : 4 ≤ j) (hs : H s = none) (hb : H b = some (.list (vi bs))) {K : AHeap → Prop} (h1 : Good bs → ∀ H' f, Ext H H' → H f = none → H' s = some (.board (some f)) → H' f = some (.list (vi bs)) → K H') (h2 : ¬ Good bs → ∀ H', Ext H H' → x "NoBases" H') :
    FnC G j a_Board_init p_Board_init [.ref s, .ref b] (H.upd s (.board none)) (fun v H' => v = .none ∧ K H') x := by
  unfold FnC p_Board_init a_Board_init
  have E0 : Ext H (H.upd s (.board none)) := Ext.new hs
  refine s_ite (wpE_call L.are_bases (by omega) ⟨_, rfl, rfl, c_are_bases L (by omega) (E0 _ _ hb) (fun g H1 e1 => ?_) (fun g H1 e1 => ?_)⟩)
  · refine ⟨fun z => (by cases z), fun _ => ?_⟩
    have hs1 : H1 s = some (.board none) := e1 _ _ upd_at
    have E1 := E0.trans e1
    refine s_nil (s_setAttr ?_)
    rw [w_bi, l_cons, w_name]
    refine ⟨_, rfl, ?_⟩
    rw [l_nil]
    unfold wpBi
    dsimp only
    rw [E1 _ _ hb]
    refine .inr (.inl ⟨rfl, fun c hc => ⟨_, rfl, s, c, rfl, rfl, rfl, (upd_ne (Ext.ne hs1 hc)).trans hs1, rfl, h1 g _ c ((E1.trans (Ext.new hc)).upd hs) (E1.fresh hc) upd_at ((upd_ne (Ne.symm (Ext.ne hs1 hc))).trans upd_at)⟩⟩)
  · refine ⟨fun _ => s_raise rfl (L.exc (by decide)) (h2 g H1 (E0.trans e1)), fun z => (by cases z)⟩

theorem c_room (L : Lib G.K) (hj : 2 ≤ j) (B : IsBoard H s bs) (h : ∀ H', Ext H H' → k (.int (room bs)) H') : FnC G j a_Board_room p_Board_room [.ref s] H k x := by
  obtain ⟨g, f, e1, e2⟩ := B
  unfold FnC p_Board_room a_Board_room
  refine s_ret (wpE_call L.product (by omega) ?_)
  rw [l_cons, w_slice]
  refine ev_bases (ev_name rfl) e1 _ _ ?_
  refine ⟨2, rfl, ?_⟩
  refine slice_cut (i := 2) e2 (by omega) fun c hc => ⟨rfl, c_product (ns := bs.take (bs.length - 2)) (by rw [upd_at, vi_length, vi_take]) (sm_take (sm_base g.ok)) (h _ (Ext.new hc))⟩

theorem c_rests (L : Lib G.K) (hj : 4 ≤ j) (B : IsBoard H s bs) {N : Int} (h1 : 0 ≤ N → N < room bs → ∀ c H', Ext H H' → H c = none → H' c = some (.list (vi (rowOf N bs))) → k (.ref c) H') (h2 : ¬ (0 ≤ N ∧ N < room bs) → ∀ H', Ext H H' → x "OutOfRoom" H') :
    FnC G j a_Board_rests p_Board_rests [.ref s, .int N] H k x := by
  unfold FnC p_Board_rests a_Board_rests
  refine s_ite ?_
  rw [w_or]
  refine ev_lt (ev_name rfl) ev_const _ _ ?_
  obtain ⟨f, e1, e2⟩ := B.ex
  refine ⟨fun z => ?_, fun z => ⟨fun _ => s_raise rfl (L.exc (by decide)) (h2 (by have : N < 0 := of_decide_eq_true z; omega) H Ext.refl), fun z' => (by rw [z] at z'; cases z')⟩⟩
  have hN : ¬ N < 0 := of_decide_eq_false z
  rw [w_cmp, w_name]
  refine ⟨_, rfl, ?_⟩
  rw [w_meth, w_name]
  refine ⟨rfl, _, rfl, methPre_board L.room e1, ?_⟩
  rw [l_nil]
  refine wpMeth_board L.room (by omega) e1 rfl (c_room L (by omega) B fun H1 E1 => ?_)
  refine ⟨fun z => s_raise rfl (L.exc (by decide)) (h2 (by have : room bs ≤ N := of_decide_eq_true z; omega) H1 E1), fun z => s_nil ?_⟩
  have hN2 : ¬ room bs ≤ N := of_decide_eq_false z
  refine s_ret (comp_map (fun b => N % b) (ev_bases (ev_name rfl) (E1 _ _ e1)) (E1 _ _ e2) (fun b hb k hk => ?_) fun c hc => h1 (by omega) (by omega) c _ (E1.trans (Ext.new hc)) (E1.fresh hc) upd_at)
  have := B.good.pos b hb
  exact ⟨_, (set_ne (by decide)).trans (only_at (by decide)), _, set_at, this, hk⟩

theorem c_is_rest {v c : Int} (h : k (.bool (decide (0 ≤ v) && decide (v < c))) H) : FnC G j a_Board_is_rest p_Board_is_rest [.ref s, .int v, .int c] H k x := by
  unfold FnC p_Board_is_rest a_Board_is_rest
  refine s_return (v := .bool (true && (decide (0 ≤ v) && decide (v < c)))) (ev_and (ev_isInt (ev_name rfl)) fun _ => ev_lelt ev_const (ev_name rfl) (ev_name rfl)) ?_
  rw [Bool.true_and]; exact h

/-- a place that is passed over -/
noncomputable def passV : Option Nat → V
  | none => .none
  | some p => .int p
theorem ev_pass {m : AMap} {i : Nat} {p : Option Nat} {y z : Str} (hy : m y = some (.int i)) (hz : m z = some (passV p)) : Ev G n false m H (.cmp .ne (.name y) (.name z)) (.bool (decide (p ≠ some i))) := by
  intro k x hk
  refine ⟨_, hy, _, hz, ?_⟩
  cases p with
  | none =>
    refine ⟨.int i, .none, rfl, rfl, ?_⟩
    have : (!PyData.eqv (.int i) .none) = decide ((none : Option Nat) ≠ some i) := by simp [PyData.eqv]
    rw [this]; exact hk
  | some q =>
    show k (.bool (!decide ((i : Int) = (q : Int)))) H
    have : (!decide ((i : Int) = (q : Int))) = decide (some q ≠ some i) := by
      by_cases e : i = q
      · simp [e]
      · simp [e, Ne.symm e]; omega
    rw [this]; exact hk
/-- a row, but for the passed place -/
noncomputable def RowBut (us : List V) (bs : List Int) (p : Option Nat) : Prop := us.length = bs.length ∧ ∀ i b, bs[i]? = some b → p ≠ some i → ∃ v, us[i]? = some (.int v) ∧ 0 ≤ v ∧ v < b
theorem c_need_row (L : Lib G.K) (hj : 2 ≤ j) (B : IsBoard H s bs) {us : List V} {p : Option Nat} (hr : H r = some (.list us)) (hl : us.length ≤ 1000) (hi : ∀ i u, us[i]? = some u → p ≠ some i → ∃ v, u = .int v) (h1 : RowBut us bs p → k .none H) (h2 : ¬ RowBut us bs p → x "NoRow" H) :
    FnC G j a_Board_need_row p_Board_need_row [.ref s, .ref r, passV p] H k x := by
  obtain ⟨f, e1, e2⟩ := B.ex
  unfold FnC p_Board_need_row a_Board_need_row
  have ns : ∀ {m : AMap}, True := trivial
  refine s_if (p := !decide ((us.length : Int) = ((vi bs).length : Int))) (ev_ne (ev_len (ev_name rfl) hr) (ev_len (ev_bases (ev_name rfl) e1) e2)) (fun z => s_raise rfl (L.exc (by decide)) (h2 fun q => ?_)) fun z => s_nil ?_
  · have := q.1; simp [vi_length] at z; omega
  have hlen : us.length = bs.length := by simp [vi_length] at z; omega
  refine ⟨rfl, ?_⟩
  rw [l_cons]
  refine ev_len (ev_name rfl) hr _ _ ?_
  refine ⟨0, (us.length : Int), 1, rfl, by decide, by omega, fun i m' H' => m' "self" = some (.ref s) ∧ m' "row" = some (.ref r) ∧ m' "passed" = some (passV p) ∧ H' = H ∧ ∀ q, q < i → ∀ b, bs[q]? = some b → p ≠ some q → ∃ v, us[q]? = some (.int v) ∧ 0 ≤ v ∧ v < b, ⟨rfl, rfl, rfl, rfl, fun q hq => (by omega)⟩, ?_, ?_⟩
  · rintro i m' H' hi' ⟨g1, g2, g3, rfl, g4⟩
    have hi' : i < us.length := by unfold rangeLen at hi'; rw [if_pos rfl] at hi'; omega
    have ei : (0 : Int) + i * 1 = (i : Int) := by omega
    rw [ei]
    obtain ⟨bi, hbi⟩ : ∃ bi, bs[i]? = some bi := ⟨_, List.getElem?_eq_getElem (by omega)⟩
    obtain ⟨ui, hui⟩ : ∃ ui, us[i]? = some ui := ⟨_, List.getElem?_eq_getElem hi'⟩
    have next : (p ≠ some i → ∃ v, us[i]? = some (.int v) ∧ 0 ≤ v ∧ v < bi) → ∀ q, q < i + 1 → ∀ b, bs[q]? = some b → p ≠ some q → ∃ v, us[q]? = some (.int v) ∧ 0 ≤ v ∧ v < b := by
      intro hn q hq b hb hp
      by_cases e : q = i
      · subst e; rw [hbi] at hb; cases hb; exact hn hp
      · exact g4 q (by omega) b hb hp
    refine s_ite ?_
    rw [w_and]
    refine ev_pass set_at ((set_ne (by decide)).trans g3) _ _ ⟨fun z => ?_, fun z => ⟨fun z' => (by rw [z] at z'; cases z'), fun _ => ?_⟩⟩
    · have hp := of_decide_eq_true z
      obtain ⟨v, rfl⟩ := hi i ui hui hp
      rw [w_not, w_meth, w_name]
      refine ⟨rfl, _, (set_ne (by decide)).trans g1, methPre_board L.is_rest e1, ?_⟩
      rw [l_cons]
      refine ev_item (ev_name ((set_ne (by decide)).trans g2)) (ev_name set_at) hr (itemAt_pos hui) _ _ ?_
      rw [l_cons]
      refine ev_item (ev_bases (ev_name ((set_ne (by decide)).trans g1)) e1) (ev_name set_at) e2 (itemAt_pos (vi_get hbi)) _ _ ?_
      rw [l_nil]
      refine wpMeth_board L.is_rest (by omega) e1 rfl (c_is_rest ?_)
      refine ⟨fun z => s_raise rfl (L.exc (by decide)) (h2 fun q => ?_), fun z => s_nil (s_nil ⟨(set_ne (by decide)).trans g1, (set_ne (by decide)).trans g2, (set_ne (by decide)).trans g3, rfl, next fun _ => ⟨v, hui, ?_⟩⟩)⟩
      · obtain ⟨v', e, c1, c2⟩ := q.2 i bi hbi hp
        rw [hui] at e; cases e
        simp [c1, c2] at z
      · simpa using z
    · have hp := of_decide_eq_false z
      exact s_nil (s_nil ⟨(set_ne (by decide)).trans g1, (set_ne (by decide)).trans g2, (set_ne (by decide)).trans g3, rfl, next fun q => absurd q hp⟩)
  · rintro m' H' ⟨g1, g2, g3, rfl, g4⟩
    have e : rangeLen 0 (us.length : Int) 1 = us.length := by unfold rangeLen; rw [if_pos rfl]; omega
    rw [e] at g4
    refine s_nil (h1 ⟨hlen, fun i b hb hp => g4 i ?_ b hb hp⟩)
    have := (List.getElem?_eq_some_iff.mp hb).1; omega
end
end Mine
end
section
namespace Mine
open PySem PySem.W PySem.Calls PyProof.Rows

section
variable {G : Gd} {j n : Nat} {H : AHeap} {k : V → AHeap → Prop} {x : XE} {s b r : Addr} {bs rs : List Int}

theorem rowBut_none : RowBut (vi rs) bs none ↔ Rests rs bs := by
  constructor
  · rintro ⟨h1, h2⟩
    refine Rests.of_get (by rw [← vi_length]; exact h1) fun i r b hr hb => ?_
    obtain ⟨v, e, c1, c2⟩ := h2 i b hb (by simp)
    rw [vi_get hr] at e; cases e; exact ⟨c1, c2⟩
  · intro h
    refine ⟨by rw [vi_length]; exact h.length, fun i b hb _ => ?_⟩
    have hi := (List.getElem?_eq_some_iff.mp hb).1
    obtain ⟨r, hr⟩ : ∃ r, rs[i]? = some r := ⟨_, List.getElem?_eq_getElem (by rw [h.length]; exact hi)⟩
    exact ⟨r, vi_get hr, h.get hr hb⟩
theorem vi_int {i : Nat} {u : V} (h : (vi rs)[i]? = some u) : ∃ v, u = .int v := by
  unfold vi at h; rw [List.getElem?_map, Option.map_eq_some_iff] at h; obtain ⟨u, _, g2⟩ := h; exact ⟨u, g2.symm⟩

theorem c_figures (L : Lib G.K) (hj : 4 ≤ j) (B : IsBoard H s bs) (hr : H r = some (.list (vi rs))) (hl : rs.length ≤ 1000) (h1 : Rests rs bs → ∀ c H', Ext H H' → H c = none → H' c = some (.list (vi (digits (crt rs bs) bs))) → k (.ref c) H') (h2 : ¬ Rests rs bs → x "NoRow" H) :
    FnC G j a_Board_figures p_Board_figures [.ref s, .ref r] H k x := by
  obtain ⟨f, e1, e2⟩ := B.ex
  unfold FnC p_Board_figures a_Board_figures
  refine s_expr ?_
  rw [w_meth, w_name]
  refine ⟨rfl, _, rfl, methPre_board L.need_row e1, ?_⟩
  simp only [l_cons, l_nil, w_name, w_const]
  refine ⟨_, rfl, wpMeth_board L.need_row (by omega) e1 rfl (c_need_row (p := none) L (by omega) B hr (by rw [vi_length]; exact hl) (fun i u hu _ => vi_int hu) (fun q => ?_) fun q => h2 fun z => q (rowBut_none.mpr z))⟩
  have hq := rowBut_none.mp q
  refine s_ret (wpE_call L.figures_of (by omega) ?_)
  rw [l_cons, w_name]
  refine ⟨_, rfl, ?_⟩
  rw [l_cons]
  refine ev_bases (ev_name rfl) e1 _ _ ⟨rfl, c_figures_of L (by omega) hr e2 B.good.ok hq.length (by have := B.good.len'; omega) fun c H' E hc hv => h1 hq c H' E hc hv⟩

theorem itemAt_neg {vs : List V} {i : Nat} {v : V} (hi : 1 ≤ i) (hl : i ≤ vs.length) (h : vs[vs.length - i]? = some v) : itemAt vs (-(i : Int)) = some v := by
  unfold itemAt; rw [if_neg (by omega), if_pos (by omega), show (-(i : Int) + vs.length).toNat = vs.length - i by omega]; exact h
theorem c_tells (L : Lib G.K) (hj : 6 ≤ j) (B : IsBoard H s bs) (hr : H r = some (.list (vi rs))) (hl : rs.length ≤ 1000) (h1 : Rests rs bs → ∀ H', Ext H H' → k (.bool (decide (crt rs bs < room bs))) H') (h2 : ¬ Rests rs bs → x "NoRow" H) :
    FnC G j a_Board_tells p_Board_tells [.ref s, .ref r] H k x := by
  obtain ⟨f, e1, e2⟩ := B.ex
  unfold FnC p_Board_tells a_Board_tells
  refine s_assign ?_
  rw [w_meth, w_name]
  refine ⟨rfl, _, rfl, methPre_board L.figures e1, ?_⟩
  simp only [l_cons, l_nil, w_name]
  refine ⟨_, rfl, wpMeth_board L.figures (by omega) e1 rfl (c_figures L (by omega) B hr hl (fun q c H' E hc hv => ?_) h2)⟩
  have X := crt_is B.good.ok q.length
  obtain ⟨d, e, hd, he, iff⟩ := tells_iff B.good X.lo X.hi
  have hlen : (vi (digits (crt rs bs) bs)).length = bs.length := by rw [vi_length, digits_length]
  have hg := B.good.len.1
  have i1 : itemAt (vi (digits (crt rs bs) bs)) (-1) = some (.int d) := itemAt_neg (i := 1) (by omega) (by omega) (by rw [hlen]; exact vi_get hd)
  have i2 : itemAt (vi (digits (crt rs bs) bs)) (-2) = some (.int e) := itemAt_neg (i := 2) (by omega) (by omega) (by rw [hlen]; exact vi_get he)
  refine s_return (v := .bool (decide (d = 0) && decide (e = 0))) (ev_and (ev_eq (ev_item (ev_name set_at) (ev_neg ev_const) hv i1) ev_const) fun _ => ev_eq (ev_item (ev_name set_at) (ev_neg ev_const) hv i2) ev_const) ?_
  have : (decide (d = 0) && decide (e = 0)) = decide (crt rs bs < room bs) := by rw [← Bool.decide_and]; exact decide_eq_decide.mpr iff
  rw [this]; exact h1 q H' E

theorem c_number (L : Lib G.K) (hj : 8 ≤ j) (B : IsBoard H s bs) (hr : H r = some (.list (vi rs))) (hl : rs.length ≤ 1000) (h1 : Rests rs bs → crt rs bs < room bs → ∀ H', Ext H H' → k (.int (crt rs bs)) H') (h2 : ¬ Rests rs bs → x "NoRow" H) (h3 : Rests rs bs → ¬ crt rs bs < room bs → ∀ H', Ext H H' → x "NoNumber" H') :
    FnC G j a_Board_number p_Board_number [.ref s, .ref r] H k x := by
  obtain ⟨f, e1, e2⟩ := B.ex
  unfold FnC p_Board_number a_Board_number
  refine s_ite ?_
  rw [w_not, w_meth, w_name]
  refine ⟨rfl, _, rfl, methPre_board L.tells e1, ?_⟩
  simp only [l_cons, l_nil, w_name]
  refine ⟨_, rfl, wpMeth_board L.tells (by omega) e1 rfl (c_tells L (by omega) B hr hl (fun q H1 E1 => ⟨fun z => s_raise rfl (L.exc (by decide)) (h3 q (by simpa using z) H1 E1), fun z => s_nil ?_⟩) h2)⟩
  have hlt : crt rs bs < room bs := by simpa using z
  refine s_ret (wpE_call L.whole_of (by omega) ?_)
  rw [l_cons, w_meth, w_name]
  refine ⟨rfl, _, rfl, methPre_board L.figures (E1 _ _ e1), ?_⟩
  rw [l_cons, w_name]
  refine ⟨_, rfl, ?_⟩
  rw [l_nil]
  refine wpMeth_board L.figures (by omega) (E1 _ _ e1) rfl (c_figures L (by omega) (B.ext E1) (E1 _ _ hr) hl (fun _ c H2 E2 hc hv => ?_) fun z => absurd q z)
  rw [l_cons]
  refine ev_bases (ev_name rfl) (E2 _ _ (E1 _ _ e1)) _ _ ⟨rfl, c_whole_of hv (E2 _ _ (E1 _ _ e2)) (by rw [digits_length]) (by have := B.good.len'; omega) (sm_base B.good.ok) ?_⟩
  have X := crt_is B.good.ok q.length
  rw [whole_digits B.good.pos X.lo X.hi]
  exact h1 q hlt H2 (E1.trans E2)

theorem c_cell_at {l : Addr} {ns : List Int} {i : Nat} (hs : H l = some (.script ns)) (h : k (.int (ns.getD i 0)) H) : FnC G j a_law_cell_at p_law_cell_at [.ref l, .int i] H k x := by
  unfold FnC p_law_cell_at a_law_cell_at
  have el : Ev G j false (pmap ["_law_script", "_law_k"] [.ref l, .int i]) H (.bi "len" (.cons (.name "_law_script") .nil)) (.int ns.length) := by
    intro k x hk
    rw [w_bi, l_cons, w_name]
    refine ⟨_, rfl, ?_⟩
    rw [l_nil]
    unfold wpBi
    dsimp only
    rw [hs]
    exact ⟨rfl, hk⟩
  refine s_if (ev_lt (ev_name rfl) el) (fun z => ?_) fun z => s_nil ?_
  · have hi : i < ns.length := by have : (i : Int) < ns.length := of_decide_eq_true z; omega
    refine s_ret ⟨_, rfl, _, rfl, ?_⟩
    unfold wpSub
    dsimp only
    rw [hs]
    refine ⟨ns[i], by omega, by simp [hi], ?_⟩
    have : ns.getD i 0 = ns[i] := by rw [List.getD_eq_getElem?_getD, List.getElem?_eq_getElem hi]; rfl
    rw [← this]; exact h
  · have hi : ¬ i < ns.length := by have : ¬ (i : Int) < ns.length := of_decide_eq_false z; omega
    have : ns.getD i 0 = 0 := by rw [List.getD_eq_getElem?_getD, List.getElem?_eq_none (by omega)]; rfl
    rw [this] at h
    exact h
end
end Mine
end
section
namespace Mine
open PySem PySem.W PySem.Calls PyProof.Rows

noncomputable def lbTail : P := tailP (tailP (tailP (tailP (tailP (tailP p_law_bases)))))
theorem sm_small {a : Int} (h : -1000000000000 ≤ a ∧ a ≤ 1000000000000) : Sm a := by unfold Sm; omega
theorem mem_drop_get {α : Type} {l : List α} {i : Nat} {a : α} (h : l[i]? = some a) : a ∈ l.drop i := by
  obtain ⟨hi, rfl⟩ := List.getElem?_eq_some_iff.mp h
  rw [List.drop_eq_getElem_cons hi]; exact .head _
theorem mem_drop_succ {α : Type} {l : List α} {i : Nat} {a : α} (h : a ∈ l.drop (i + 1)) : a ∈ l.drop i := by
  by_cases hi : i < l.length
  · rw [List.drop_eq_getElem_cons hi]; exact .tail _ h
  · rw [List.drop_of_length_le (by omega)] at h; simp at h
theorem pair_drop {α : Type} {R : α → α → Prop} {l : List α} {i : Nat} {a b : α} (h : l.Pairwise R) (ha : l[i]? = some a) (hb : b ∈ l.drop (i + 1)) : R a b := by
  obtain ⟨hi, rfl⟩ := List.getElem?_eq_some_iff.mp ha
  obtain ⟨q, hq, rfl⟩ := List.mem_iff_getElem.mp hb
  rw [List.getElem_drop]
  rw [List.length_drop] at hq
  exact List.pairwise_iff_getElem.mp h i (i + 1 + q) hi (by omega) (by omega)
theorem vi_inv {ns : List Int} {i : Nat} {v : V} (hv : (vi ns)[i]? = some v) : ∃ u, ns[i]? = some u ∧ v = .int u := by
  unfold vi at hv; rw [List.getElem?_map, Option.map_eq_some_iff] at hv; obtain ⟨u, g1, g2⟩ := hv; exact ⟨u, g1, g2.symm⟩
theorem cop_p3 {z p : Int} (h : Cop z p) {w : Int} (hw : w = 1 ∨ w = p ∨ w = p * p) : Cop z (p * w) := by
  rcases hw with rfl | rfl | rfl
  · rw [Int.mul_one]; exact h
  · exact h.mul_right h
  · exact h.mul_right (h.mul_right h)

section
variable {G : Gd} {j n : Nat} {H H0 : AHeap} {k : V → AHeap → Prop} {x : XS} {kn : AMap → AHeap → Prop} {m : AMap} {ps es : List Int} {far one picks : Int} {c0 c1 c2 : Addr}

/-- the bases so far, i ends gone by -/
structure Some2 (ps es : List Int) (far : Int) (i : Nat) (l : List Int) : Prop where
  rng : ∀ e ∈ l, 3 ≤ e ∧ e ≤ 999999 ∧ e % 2 = 1
  cop : l.Pairwise Cop
  next : ∀ a ∈ l, ∀ e ∈ es.drop i, Cop a (far + e)
  hi : l.length ≤ ps.length + i
  lo : 3 + i ≤ l.length + es.length
theorem Some2.snoc {l : List Int} {i : Nat} {e : Int} (C : Cfg ps es far) (h : Some2 ps es far i l) (he : es[i]? = some e) : Some2 ps es far (i + 1) (l ++ [far + e]) := by
  have hm := List.mem_of_getElem? he
  refine ⟨fun a ha => ?_, ?_, fun a ha e' he' => ?_, by rw [List.length_append, List.length_singleton]; have := h.hi; omega, by rw [List.length_append, List.length_singleton]; have := h.lo; omega⟩
  · rcases List.mem_append.mp ha with ha | ha
    · exact h.rng a ha
    · rw [List.mem_singleton.mp ha]; exact C.er e hm
  · refine List.pairwise_append.mpr ⟨h.cop, List.pairwise_singleton _ _, fun a ha b hb => ?_⟩
    rw [List.mem_singleton.mp hb]; exact h.next a ha e (mem_drop_get he)
  · rcases List.mem_append.mp ha with ha | ha
    · exact h.next a ha e' (mem_drop_succ he')
    · rw [List.mem_singleton.mp ha]
      exact pair_drop (R := fun a b => Cop (far + a) (far + b)) (List.pairwise_map.mp C.ec) he he'
theorem Some2.skip {l : List Int} {i : Nat} (h : Some2 ps es far i l) (hlt : 3 < l.length + es.length - i) : Some2 ps es far (i + 1) l :=
  ⟨h.rng, h.cop, fun a ha e he => h.next a ha e (mem_drop_succ he), by have := h.hi; omega, by have := h.lo; omega⟩

/-- the part behind the primes -/
theorem lb_end {l : List Int} {p : P} (hp : p = tailP (tailP lbTail)) (C : Cfg ps es far) (e0 : Ext H0 H) (f0 : H0 c0 = none) (h0 : H c0 = some (.list (vi l))) (h2 : H c2 = some (.list (vi es))) (n02 : c0 ≠ c2) (hl : l.length ≤ ps.length) (S : Some1 ps l) (m0 : m "_law_some" = some (.ref c0)) (m2 : m "_law_ends" = some (.ref c2))
    (m3 : m "_law_far" = some (.int far)) (m4 : m "_law_picks" = some (.int picks)) (h : ∀ c bs H', Ext H0 H' → H0 c = none → Good bs → H' c = some (.list (vi bs)) → k (.ref c) H') : wpS G j false p m H kn k x := by
  subst hp
  unfold lbTail p_law_bases
  dsimp only [tailP]
  refine ⟨rfl, ?_⟩
  rw [l_cons]
  refine ev_len (ev_name m2) h2 _ _ ?_
  rw [l_nil]
  have C1 := C.len
  refine ⟨0, (es.length : Int), 1, by rw [vi_length]; rfl, by decide, by omega, fun i m' H' => m' "_law_some" = some (.ref c0) ∧ m' "_law_ends" = some (.ref c2) ∧ m' "_law_far" = some (.int far) ∧ (∃ q : Int, m' "_law_picks" = some (.int q)) ∧ Ext H0 H' ∧ H' c2 = some (.list (vi es)) ∧ ∃ l', H' c0 = some (.list (vi l')) ∧ Some2 ps es far i l', ?_, ?_, ?_⟩
  · refine ⟨m0, m2, m3, ⟨_, m4⟩, e0, h2, l, h0, fun e he => ?_, S.cop, fun a ha e he => ?_, by omega, by have := C.elen; omega⟩
    · have := S.rng e he; omega
    · exact (S.made a ha _ (C.ep e (by simpa using he))).symm
  · rintro i m' H' hi ⟨g0, g1, g2, ⟨q, g3⟩, g4, g5, l', g6, g7⟩
    have hi : i < es.length := by unfold rangeLen at hi; rw [if_pos rfl] at hi; omega
    have ei : (0 : Int) + i * 1 = (i : Int) := by omega
    rw [ei]
    obtain ⟨e, he⟩ : ∃ e, es[i]? = some e := ⟨_, List.getElem?_eq_getElem hi⟩
    have hll := g7.hi
    have k0 := (set_ne (m := m') (x := "_law_k") (v := .int i) (y := "_law_some") (by decide)).trans g0
    have k1 := (set_ne (m := m') (x := "_law_k") (v := .int i) (y := "_law_ends") (by decide)).trans g1
    have k2 := (set_ne (m := m') (x := "_law_k") (v := .int i) (y := "_law_far") (by decide)).trans g2
    have k3 := (set_ne (m := m') (x := "_law_k") (v := .int i) (y := "_law_picks") (by decide)).trans g3
    have fin : ∀ {l2 : List Int} {H2 : AHeap}, Ext H0 H2 → H2 c2 = some (.list (vi es)) → H2 c0 = some (.list (vi l2)) → Some2 ps es far (i + 1) l2 → wpS G j false (.cons (.assign "_law_picks" (.bin .fdiv (.name "_law_picks") (.const (.int 2)))) .nil) (m'.set "_law_k" (.int i)) H2 (fun m' H' => m' "_law_some" = some (.ref c0) ∧ m' "_law_ends" = some (.ref c2) ∧ m' "_law_far" = some (.int far) ∧ (∃ q : Int, m' "_law_picks" = some (.int q)) ∧ Ext H0 H' ∧ H' c2 = some (.list (vi es)) ∧ ∃ l', H' c0 = some (.list (vi l')) ∧ Some2 ps es far (i + 1) l') k x := by
      intro l2 H2 a1 a2 a3 a4
      exact s_set (ev_fdiv (ev_name k3) ev_const (by decide) (by decide)) (s_nil ⟨(set_ne (by decide)).trans k0, (set_ne (by decide)).trans k1, (set_ne (by decide)).trans k2, ⟨_, set_at⟩, a1, a2, l2, a3, a4⟩)
    refine s_if (ev_or (ev_eq (ev_mod (ev_name k3) ev_const (by decide)) ev_const) fun _ => ev_le (ev_minus (ev_add (ev_len (ev_name k0) g6) (ev_len (ev_name k1) g5)) (ev_name set_at)) ev_const) (fun z => ?_) fun z => s_nil ?_
    · refine s_expr ?_
      rw [w_meth, w_name]
      refine ⟨rfl, _, k0, methPre_list g6, ?_⟩
      rw [l_cons]
      refine ev_add (ev_name k2) (ev_item (ev_name k1) (ev_name set_at) g5 (itemAt_pos (vi_get he))) _ _ ?_
      rw [l_nil]
      refine append_at' g6 g6 (by rw [vi_length]; omega) (s_nil (fin (l2 := l' ++ [far + e]) (g4.upd f0) ((upd_ne (Ne.symm n02)).trans g5) ?_ (g7.snoc C he)))
      rw [upd_at]; simp [vi]
    · refine fin g4 g5 g6 (g7.skip ?_)
      simp [vi_length] at z
      omega
  · rintro m' H' ⟨g0, g1, g2, g3, g4, g5, l', g6, g7⟩
    have e : rangeLen 0 (es.length : Int) 1 = es.length := by unfold rangeLen; rw [if_pos rfl]; omega
    rw [e] at g7
    refine s_ret ?_
    rw [w_bi, l_cons, w_name]
    refine ⟨_, g0, ?_⟩
    rw [l_nil]
    unfold wpBi
    dsimp only
    rw [g6]
    have hll := g7.hi
    have hlo := g7.lo
    refine .inr (.inr ⟨rfl, rfl, l', rfl, by omega, fun c s hc hp hs => h c s _ (g4.trans (Ext.new hc)) (g4.fresh hc) (good_sorted hp hs (by omega) g7.rng g7.cop) upd_at⟩)

theorem lb_tail (C : Cfg ps es far) (e0 : Ext H0 H) (f0 : H0 c0 = none) (h0 : H c0 = some (.list (vi []))) (h1 : H c1 = some (.list (vi ps))) (h2 : H c2 = some (.list (vi es))) (n01 : c0 ≠ c1) (n02 : c0 ≠ c2) (m0 : m "_law_some" = some (.ref c0)) (m1 : m "_law_primes" = some (.ref c1)) (m2 : m "_law_ends" = some (.ref c2))
    (m3 : m "_law_far" = some (.int far)) (m4 : m "_law_picks" = some (.int picks)) (m5 : m "_law_one" = some (.int one)) (h : ∀ c bs H', Ext H0 H' → H0 c = none → Good bs → H' c = some (.list (vi bs)) → k (.ref c) H') : wpS G j false lbTail m H kn k x := by
  unfold lbTail p_law_bases
  dsimp only [tailP]
  refine ⟨rfl, _, m1, c1, vi ps, rfl, h1, fun i m' H' => m' "_law_some" = some (.ref c0) ∧ m' "_law_ends" = some (.ref c2) ∧ m' "_law_far" = some (.int far) ∧ m' "_law_picks" = some (.int picks) ∧ (∃ q : Int, m' "_law_one" = some (.int q)) ∧ Ext H0 H' ∧ H' c1 = some (.list (vi ps)) ∧ H' c2 = some (.list (vi es)) ∧ ∃ l, H' c0 = some (.list (vi l)) ∧ Some1 ps l ∧ l.length ≤ i ∧ ∀ a ∈ l, ∀ q ∈ ps.drop i, Cop a q, ?_, ?_, ?_⟩
  · exact ⟨m0, m2, m3, m4, ⟨_, m5⟩, e0, h1, h2, [], h0, ⟨fun _ h => (by simp at h), fun _ h => (by simp at h), .nil⟩, Nat.le_refl _, fun _ h => (by simp at h)⟩
  · rintro i v m' H' hv ⟨g0, g1, g2, g3, ⟨q, g4⟩, g5, g6, g7, l, g8, g9, g10, g11⟩
    refine ⟨g6, ?_⟩
    obtain ⟨p, hp, rfl⟩ := vi_inv hv
    have hpm := List.mem_of_getElem? hp
    have hi := (List.getElem?_eq_some_iff.mp hp).1
    have pr := C.pr p hpm
    have hpl := C.plen
    have k0 := (set_ne (m := m') (x := "_law_prime") (v := .int p) (y := "_law_some") (by decide)).trans g0
    have k1 := (set_ne (m := m') (x := "_law_prime") (v := .int p) (y := "_law_ends") (by decide)).trans g1
    have k2 := (set_ne (m := m') (x := "_law_prime") (v := .int p) (y := "_law_far") (by decide)).trans g2
    have k3 := (set_ne (m := m') (x := "_law_prime") (v := .int p) (y := "_law_picks") (by decide)).trans g3
    have k4 := (set_ne (m := m') (x := "_law_prime") (v := .int p) (y := "_law_one") (by decide)).trans g4
    have fin : ∀ {l2 : List Int} {H2 : AHeap}, Ext H0 H2 → H2 c1 = some (.list (vi ps)) → H2 c2 = some (.list (vi es)) → H2 c0 = some (.list (vi l2)) → Some1 ps l2 → l2.length ≤ i + 1 → (∀ a ∈ l2, ∀ q ∈ ps.drop (i + 1), Cop a q) →
        wpS G j false (.cons (.assign "_law_one" (.bin .fdiv (.name "_law_one") (.const (.int 4)))) .nil) (m'.set "_law_prime" (.int p)) H2 (fun m2 H2 => (m2 "_law_some" = some (.ref c0) ∧ m2 "_law_ends" = some (.ref c2) ∧ m2 "_law_far" = some (.int far) ∧ m2 "_law_picks" = some (.int picks) ∧ (∃ q : Int, m2 "_law_one" = some (.int q)) ∧ Ext H0 H2 ∧ H2 c1 = some (.list (vi ps)) ∧ H2 c2 = some (.list (vi es)) ∧ ∃ l, H2 c0 = some (.list (vi l)) ∧ Some1 ps l ∧ l.length ≤ i + 1 ∧ ∀ a ∈ l, ∀ q ∈ ps.drop (i + 1), Cop a q) ∧ H2 c1 = some (.list (vi ps))) k x := by
      intro l2 H2 a1 a2 a3 a4 a5 a6 a7
      exact s_set (ev_fdiv (ev_name k4) ev_const (by decide) (by decide)) (s_nil ⟨⟨(set_ne (by decide)).trans k0, (set_ne (by decide)).trans k1, (set_ne (by decide)).trans k2, (set_ne (by decide)).trans k3, ⟨_, set_at⟩, a1, a2, a3, l2, a4, a5, a6, a7⟩, a2⟩)
    have q0 := Int.emod_nonneg q (b := 4) (by decide)
    have q1 := Int.emod_lt_of_pos q (b := 4) (by decide)
    refine s_if (ev_gt (ev_mod (ev_name k4) ev_const (by decide)) ev_const) (fun z => ?_) fun z => s_nil (fin g5 g6 g7 g8 g9 (by omega) fun a ha q hq => g11 a ha q (mem_drop_succ hq))
    have hq0 : 0 < q % 4 := of_decide_eq_true z
    refine s_expr ?_
    rw [w_meth, w_name]
    refine ⟨rfl, _, k0, methPre_list g8, ?_⟩
    rw [l_cons, w_bin, w_name]
    refine ⟨_, set_at, ?_⟩
    rw [w_sub, w_list]
    simp only [l_cons, w_const, w_name, w_bin, l_nil]
    refine ⟨_, set_at, _, set_at, _, set_at, .inl (sm_small (by omega)), by simp, fun c hc => ?_⟩
    refine ⟨_, k4, (by decide : (0 : Int) < 4), ?_⟩
    obtain ⟨w, hw, hw2⟩ : ∃ w, itemAt [.int 1, .int 1, .int p, .int (p * p)] (q % 4) = some (.int w) ∧ (w = 1 ∨ w = p ∨ w = p * p) := by
      have : q % 4 = 1 ∨ q % 4 = 2 ∨ q % 4 = 3 := by omega
      rcases this with e | e | e <;> rw [e]
      · exact ⟨1, rfl, .inl rfl⟩
      · exact ⟨p, rfl, .inr (.inl rfl)⟩
      · exact ⟨p * p, rfl, .inr (.inr rfl)⟩
    refine sub_at upd_at hw ⟨.inl (sm_small (by omega)), ?_⟩
    have hc0 : (H'.upd c (.list [.int 1, .int 1, .int p, .int (p * p)])) c0 = some (.list (vi l)) := (upd_ne (Ext.ne g8 hc)).trans g8
    have pp : 9 ≤ p * p ∧ p * p ≤ 169 := ⟨Int.mul_le_mul pr.1 pr.1 (by decide) (by omega), Int.mul_le_mul pr.2.1 pr.2.1 (by omega) (by decide)⟩
    have wr : 1 ≤ w ∧ w ≤ 169 ∧ w % 2 = 1 := by
      rcases hw2 with rfl | rfl | rfl
      · decide
      · omega
      · exact ⟨by omega, by omega, odd_mul pr.2.2 pr.2.2⟩
    have pw : 3 ≤ p * w ∧ p * w ≤ 2197 := ⟨by have := Int.mul_le_mul pr.1 wr.1 (by decide) (by omega); omega, by have := Int.mul_le_mul pr.2.1 wr.2.1 (by omega) (by decide); omega⟩
    refine append_at' g8 hc0 (by rw [vi_length]; omega) (s_nil (fin (l2 := l ++ [p * w]) ((g5.trans (Ext.new hc)).upd f0) ((upd_ne (Ne.symm n01)).trans ((upd_ne (Ext.ne g6 hc)).trans g6)) ((upd_ne (Ne.symm n02)).trans ((upd_ne (Ext.ne g7 hc)).trans g7)) (by rw [upd_at]; simp [vi]) (g9.snoc ⟨by omega, by omega, odd_mul pr.2.2 wr.2.2⟩ (fun z hz => cop_p3 (hz p hpm) hw2) fun a ha => cop_p3 (g11 a ha p (mem_drop_get hp)) hw2) (by rw [List.length_append, List.length_singleton]; omega) fun a ha q hq => ?_))
    rcases List.mem_append.mp ha with ha | ha
    · exact g11 a ha q (mem_drop_succ hq)
    · rw [List.mem_singleton.mp ha]
      exact (cop_p3 (pair_drop C.pc hp hq).symm hw2).symm
  · rintro m' H' ⟨g0, g1, g2, g3, ⟨q, g4⟩, g5, g6, g7, l, g8, g9, g10, g11⟩
    rw [vi_length] at g10
    have hpl := C.plen
    have it : ∀ {i : Nat} {a : Int}, l[i]? = some a → itemAt (vi l) (i : Int) = some (.int a) := fun h => itemAt_pos (vi_get h)
    have plain : wpS G j false (tailP (tailP lbTail)) m' H' kn k x := lb_end rfl C g5 f0 g8 g7 n02 g10 g9 g0 g1 g2 g3 h
    refine s_ite ?_
    rw [w_and]
    refine ev_eq (ev_mod (ev_name g4) ev_const (by decide)) ev_const _ _ ⟨fun _ => ?_, fun z => ⟨fun z' => (by rw [z] at z'; cases z'), fun _ => s_nil plain⟩⟩
    rw [w_and]
    refine ev_gt (ev_len (ev_name g0) g8) ev_const _ _ ⟨fun z => ?_, fun z => ⟨fun z' => (by rw [z] at z'; cases z'), fun _ => s_nil plain⟩⟩
    have hl1 : 1 < l.length := by have : (1 : Int) < ((vi l).length : Int) := of_decide_eq_true z; rw [vi_length] at this; omega
    obtain ⟨a, b, l', rfl⟩ : ∃ a b l', l = a :: b :: l' := by
      cases l with
      | nil => simp at hl1
      | cons a l => cases l with
        | nil => simp at hl1
        | cons b l' => exact ⟨a, b, l', rfl⟩
    have ra := g9.rng a (by simp)
    have rb := g9.rng b (by simp)
    have mo : MulOk a b := .inl (sm_small (by omega))
    have ea : Ev G j false m' H' (.sub (.name "_law_some") (.const (.int 0))) (.int a) := ev_item (ev_name g0) ev_const g8 (it (i := 0) rfl)
    have eb : Ev G j false m' H' (.sub (.name "_law_some") (.const (.int 1))) (.int b) := ev_item (ev_name g0) ev_const g8 (it (i := 1) rfl)
    refine ev_lt (ev_mul ea eb mo) ev_const _ _ ⟨fun z => ?_, fun z => s_nil plain⟩
    have hlt : a * b < 900000 := of_decide_eq_true z
    refine s_assign ?_
    rw [w_bin, w_list, l_cons]
    refine ev_mul ea eb mo _ _ ?_
    rw [l_nil]
    refine ⟨by simp, fun c3 hc3 => ?_⟩
    rw [w_slice, w_name]
    refine ⟨_, g0, ?_⟩
    have E3 := Ext.new (o := .list [.int (a * b)]) hc3
    rw [w_const, w_const]
    refine slice_drop (i := 2) (E3 _ _ g8) (by rw [vi_length]; exact hl1) fun c4 hc4 => ?_
    have E4 := Ext.new (o := .list ((vi (a :: b :: l')).drop 2)) hc4
    refine ⟨[.int (a * b)], (vi (a :: b :: l')).drop 2, E4 _ _ upd_at, upd_at, by simp [vi] at *; omega, fun c5 hc5 => s_nil ?_⟩
    have E5 := Ext.new (o := .list ([.int (a * b)] ++ (vi (a :: b :: l')).drop 2)) hc5
    refine lb_end (l := a * b :: l') rfl C (((g5.trans E3).trans E4).trans E5) ((((g5.trans E3).trans E4)).fresh hc5) (by rw [upd_at]; simp [vi]) (E5 _ _ (E4 _ _ (E3 _ _ g7))) (Ne.symm (Ext.ne (E4 _ _ (E3 _ _ g7)) hc5)) (by simp at g10 ⊢; omega) (g9.join hlt) set_at ((set_ne (by decide)).trans g1) ((set_ne (by decide)).trans g2) ((set_ne (by decide)).trans g3) h

theorem c_bases {x : XE} {a b : Int} (h : ∀ c bs H', Ext H H' → H c = none → Good bs → H' c = some (.list (vi bs)) → k (.ref c) H') : FnC G j a_law_bases p_law_bases [.int a, .int b] H k x := by
  unfold FnC a_law_bases
  show wpS G j false (.cons _ _) _ _ _ _ _
  refine s_assign ⟨by simp, fun c0 hc0 => ?_⟩
  have E0 := Ext.new (o := .list []) hc0
  refine s_assign ⟨by simp, fun c1 hc1 => ?_⟩
  have E1 := Ext.new (o := .list [.int 3, .int 5, .int 7, .int 11, .int 13]) hc1
  refine s_assign ⟨by simp, fun c2 hc2 => ?_⟩
  have E2 := Ext.new (o := .list [.int 17, .int 19, .int 23, .int 29, .int 31, .int 37, .int 41, .int 43, .int 47]) hc2
  refine s_set (ev_mul ev_const (ev_mod (ev_name rfl) ev_const (by decide)) (.inl (by unfold Sm; decide))) ?_
  refine s_set (ev_fdiv (ev_name rfl) ev_const (by decide) (by decide)) ?_
  have k0 := E2 _ _ (E1 _ _ (upd_at (H := H) (a := c0) (o := .list [])))
  have k1 := E2 _ _ (upd_at (H := H.upd c0 (.list [])) (a := c1) (o := .list [.int 3, .int 5, .int 7, .int 11, .int 13]))
  have n01 : c0 ≠ c1 := Ext.ne (upd_at (H := H) (a := c0) (o := .list [])) hc1
  have n02 : c0 ≠ c2 := Ext.ne (E1 _ _ (upd_at (H := H) (a := c0) (o := .list []))) hc2
  refine s_if (ev_eq (ev_mod (ev_name rfl) ev_const (by decide)) ev_const) (fun z => ?_) fun z => s_nil ?_
  · refine s_assign ⟨by simp, fun c3 hc3 => ?_⟩
    have E3 := Ext.new (o := .list [.int 3, .int 5, .int 7, .int 11]) hc3
    refine s_assign ⟨by simp, fun c4 hc4 => ?_⟩
    have E4 := Ext.new (o := .list [.int 13, .int 17, .int 19, .int 23, .int 29, .int 31]) hc4
    refine s_set (ev_mul ev_const (ev_mod (ev_name rfl) ev_const (by decide)) (.inl (by unfold Sm; decide))) ?_
    refine s_set (ev_fdiv (ev_name rfl) ev_const (by decide) (by decide)) (s_nil ?_)
    exact lb_tail (one := a) (cfg2 b) ((((E0.trans E1).trans E2).trans E3).trans E4) hc0 (E4 _ _ (E3 _ _ k0)) (E4 _ _ upd_at) upd_at (Ext.ne (E2 _ _ (E1 _ _ upd_at)) hc3) (Ext.ne (E3 _ _ (E2 _ _ (E1 _ _ upd_at))) hc4) rfl rfl rfl rfl rfl rfl h
  · exact lb_tail (one := a) (cfg1 b) ((E0.trans E1).trans E2) hc0 k0 k1 upd_at n01 n02 rfl rfl rfl rfl rfl rfl h
end
end Mine
end
section
namespace Mine
open PySem PySem.W PySem.Calls PyProof.Rows
noncomputable def p_law_row : P := (.cons (.ite (.or (.not (.isinst (.name "_law_made") "list")) (.cmp .ne (.bi "len" (.cons (.name "_law_made") .nil)) (.bi "len" (.cons (.name "_law_due") .nil)))) (.cons (.ret (.const (.bool false)))
  .nil) .nil)
  (.cons (.forL "_law_rest" (.name "_law_made") (.cons (.ite (.or (.not (.isinst (.name "_law_rest") "int")) (.isinst (.name "_law_rest") "bool")) (.cons (.ret (.const (.bool false)))
  .nil) .nil)
  .nil))
  (.cons (.ret (.cmp .eq (.name "_law_made") (.name "_law_due")))
  .nil)))
noncomputable def a_law_row : List Str := ["_law_made", "_law_due"]
noncomputable def p_law_room : P := (.cons (.assign "_law_product" (.const (.int 1)))
  (.cons (.forL "_law_base" (.slice (.name "_law_bases_here") (.const .none) (.bin .sub (.bi "len" (.cons (.name "_law_bases_here") .nil)) (.const (.int 2)))) (.cons (.assign "_law_product" (.bin .mul (.name "_law_product") (.name "_law_base")))
  .nil))
  (.cons (.ret (.name "_law_product"))
  .nil)))
noncomputable def a_law_room : List Str := ["_law_bases_here"]
noncomputable def p_law_number : P := (.cons (.ite (.cmp .eq (.bin .mod (.name "_law_way") (.const (.int 4))) (.const (.int 1))) (.cons (.ret (.sub (.list (.cons (.const (.int 0)) (.cons (.const (.int 1)) (.cons (.bin .sub (.name "_law_room_here") (.const (.int 1))) (.cons (.bin .sub (.name "_law_room_here") (.const (.int 2))) (.cons (.bin .fdiv (.name "_law_room_here") (.const (.int 2))) (.cons (.bin .add (.bin .fdiv (.name "_law_room_here") (.const (.int 2))) (.const (.int 1))) (.cons (.bi "min" (.cons (.const (.int 2)) (.cons (.bin .sub (.name "_law_room_here") (.const (.int 1))) .nil))) (.cons (.bin .fdiv (.name "_law_room_here") (.const (.int 3))) .nil))))))))) (.bin .mod (.bin .fdiv (.name "_law_way") (.const (.int 4))) (.const (.int 8)))))
  .nil) .nil)
  (.cons (.ret (.bin .mod (.bin .mul (.name "_law_cell") (.const (.int 1000000007))) (.name "_law_room_here")))
  .nil))
noncomputable def a_law_number : List Str := ["_law_cell", "_law_way", "_law_room_here"]

theorem adata_vi {H : AHeap} {a : Addr} {ns : List Int} {j : Nat} (ha : H a = some (.list (vi ns))) : adata H (j + 1) (.ref a) = some (.list (ns.map PyData.int)) := by
  have key : ∀ ns : List Int, (vi ns).mapM (adata H j) = some (ns.map PyData.int) := by
    intro ns
    induction ns with
    | nil => rfl
    | cons n ns ih =>
      show ((V.int n) :: vi ns).mapM (adata H j) = _
      have e : adata H j (.int n) = some (.int n) := by cases j <;> rfl
      rw [List.mapM_cons, e, ih]
      rfl
  unfold adata
  rw [ha]
  show Option.map PyData.list ((vi ns).mapM (adata H j)) = _
  rw [key]; rfl
theorem eqv_ints {as bs : List Int} : PyData.eqv (.list (as.map PyData.int)) (.list (bs.map PyData.int)) = decide (as = bs) := by
  simp only [PyData.eqv]; exact PySem.W.ked_eqvAll as bs
section
variable {G : Gd} {j n : Nat} {H : AHeap} {k : V → AHeap → Prop} {x : XE} {s b r : Addr} {bs rs : List Int} {m : AMap}

theorem ev_same {a b : P} {c d : Addr} {as bs : List Int} (ha : Ev G n false m H a (.ref c)) (hb : Ev G n false m H b (.ref d)) (hc : H c = some (.list (vi as))) (hd : H d = some (.list (vi bs))) : Ev G n false m H (.cmp .eq a b) (.bool (decide (as = bs))) := by
  intro k x hk
  refine ha _ _ (hb _ _ ⟨_, _, adata_vi hc, adata_vi hd, ?_⟩)
  rw [eqv_ints]; exact hk
theorem c_row {a d : Addr} {as ds : List Int} (ha : H a = some (.list (vi as))) (hd : H d = some (.list (vi ds))) (h : k (.bool (decide (as = ds))) H) : FnC G j a_law_row p_law_row [.ref a, .ref d] H k x := by
  unfold FnC p_law_row a_law_row
  refine s_if (ev_or (ev_not (ev_isList (ev_name rfl) ha)) fun _ => ev_ne (ev_len (ev_name rfl) ha) (ev_len (ev_name rfl) hd)) (fun z => ?_) fun z => s_nil ?_
  · refine s_return ev_const ?_
    have : as ≠ ds := by rintro rfl; simp at z
    simpa [this] using h
  · refine ⟨rfl, _, rfl, a, vi as, rfl, ha, fun i m' H' => m' "_law_made" = some (.ref a) ∧ m' "_law_due" = some (.ref d) ∧ H' = H, ⟨rfl, rfl, rfl⟩, ?_, ?_⟩
    · rintro i v m' H' hv ⟨e1, e2, rfl⟩
      refine ⟨ha, ?_⟩
      obtain ⟨u, hu, rfl⟩ := vi_inv hv
      exact s_if (ev_or (ev_not (ev_isInt (ev_name set_at))) fun _ => ev_isBool (ev_name set_at)) (fun z => (by cases z)) fun z => s_nil (s_nil ⟨⟨(set_ne (by decide)).trans e1, (set_ne (by decide)).trans e2, rfl⟩, ha⟩)
    · rintro m' H' ⟨e1, e2, rfl⟩
      exact s_return (ev_same (ev_name e1) (ev_name e2) ha hd) h
theorem c_law_room (g : Good bs) (hb : H b = some (.list (vi bs))) (h : ∀ H', Ext H H' → k (.int (room bs)) H') : FnC G j a_law_room p_law_room [.ref b] H k x := by
  unfold FnC p_law_room a_law_room
  refine s_set ev_const ?_
  refine ⟨rfl, ?_⟩
  rw [w_slice, w_name]
  refine ⟨_, rfl, ?_⟩
  rw [w_const]
  refine ev_minus (ev_len (ev_name rfl) hb) ev_const _ _ ?_
  have hl := g.len
  rw [vi_length, show (bs.length : Int) - 2 = ((bs.length - 2 : Nat) : Int) by omega]
  refine slice_take hb (by rw [vi_length]; omega) fun c hc => ?_
  rw [vi_take]
  generalize hns : bs.take (bs.length - 2) = ns
  have hs : ∀ b ∈ ns, Sm b := by rw [← hns]; exact sm_take (sm_base g.ok)
  have hroom : room bs = ns.prod := by rw [← hns]; rfl
  refine ⟨c, vi ns, rfl, upd_at, fun i m' H' => m' "_law_product" = some (.int (ns.take i).prod) ∧ H' = H.upd c (.list (vi ns)), ⟨by simp [set_at], rfl⟩, ?_, ?_⟩
  · rintro i v m' H' hv ⟨h1, rfl⟩
    refine ⟨upd_at, ?_⟩
    obtain ⟨u, hu, rfl⟩ := vi_inv hv
    refine s_set (ev_mul (ev_name ((set_ne (by decide)).trans h1)) (ev_name set_at) (.inr (.inl (hs u (List.mem_of_getElem? hu))))) (s_nil ⟨⟨?_, rfl⟩, upd_at⟩)
    rw [set_at, List.take_succ, hu, List.prod_append]
    simp
  · rintro m' H' ⟨h1, rfl⟩
    rw [vi_length, List.take_length] at h1
    refine s_return (ev_name h1) ?_
    rw [← hroom]; exact h _ (Ext.new hc)
theorem emod8 {w : Int} : w % 8 = 0 ∨ w % 8 = 1 ∨ w % 8 = 2 ∨ w % 8 = 3 ∨ w % 8 = 4 ∨ w % 8 = 5 ∨ w % 8 = 6 ∨ w % 8 = 7 := by omega
theorem c_law_number {cell way R : Int} (hR : 3 ≤ R) (h : ∀ N H', 0 ≤ N → N < R → Ext H H' → k (.int N) H') : FnC G j a_law_number p_law_number [.int cell, .int way, .int R] H k x := by
  unfold FnC p_law_number a_law_number
  refine s_if (ev_eq (ev_mod (ev_name rfl) ev_const (by decide)) ev_const) (fun z => ?_) fun z => s_nil (s_return (ev_mod (ev_mul (ev_name rfl) ev_const (.inr (.inl (by unfold Sm; decide)))) (ev_name rfl) (by omega)) (h _ H (Int.emod_nonneg _ (by omega)) (Int.emod_lt_of_pos _ (by omega)) Ext.refl))
  refine s_ret ?_
  rw [w_sub, w_list]
  have eR : ∀ {H : AHeap}, Ev G j false (pmap ["_law_cell", "_law_way", "_law_room_here"] [.int cell, .int way, .int R]) H (.name "_law_room_here") (.int R) := ev_name rfl
  rw [l_cons, w_const, l_cons, w_const, l_cons]
  refine ev_minus eR ev_const _ _ ?_
  rw [l_cons]
  refine ev_minus eR ev_const _ _ ?_
  rw [l_cons]
  refine ev_fdiv (j := 2) eR ev_const (by decide) (by decide) _ _ ?_
  rw [l_cons]
  refine ev_add (ev_fdiv (j := 2) eR ev_const (by decide) (by decide)) ev_const _ _ ?_
  rw [l_cons, w_bi, l_cons, w_const, l_cons]
  refine ev_minus eR ev_const _ _ ?_
  rw [l_nil]
  refine .inl ⟨rfl, rfl, ?_⟩
  dsimp only
  rw [l_cons]
  refine ev_fdiv (j := 3) eR ev_const (by decide) (by decide) _ _ ?_
  rw [l_nil]
  refine ⟨by simp, fun c hc => ?_⟩
  refine ev_mod (i := way / 4) (j := 8) (ev_fdiv (ev_name rfl) ev_const (by decide) (by decide)) ev_const (by decide) _ _ ?_
  have h2 : 0 ≤ R / 2 ∧ R / 2 + 1 < R := by omega
  have h3 : 0 ≤ R / 3 ∧ R / 3 < R := by omega
  have E := Ext.new (o := .list [.int 0, .int 1, .int (R - 1), .int (R - 2), .int (R / 2), .int (R / 2 + 1), .int (min 2 (R - 1)), .int (R / 3)]) hc
  rcases emod8 (w := way / 4) with e | e | e | e | e | e | e | e <;> rw [e]
  · exact sub_at upd_at (v := .int 0) rfl (h _ _ (by omega) (by omega) E)
  · exact sub_at upd_at (v := .int 1) rfl (h _ _ (by omega) (by omega) E)
  · exact sub_at upd_at (v := .int (R - 1)) rfl (h _ _ (by omega) (by omega) E)
  · exact sub_at upd_at (v := .int (R - 2)) rfl (h _ _ (by omega) (by omega) E)
  · exact sub_at upd_at (v := .int (R / 2)) rfl (h _ _ (by omega) (by omega) E)
  · exact sub_at upd_at (v := .int (R / 2 + 1)) rfl (h _ _ (by omega) (by omega) E)
  · exact sub_at upd_at (v := .int (min 2 (R - 1))) rfl (h _ _ (by omega) (by omega) E)
  · exact sub_at upd_at (v := .int (R / 3)) rfl (h _ _ (by omega) (by omega) E)
end
end Mine
end
section
set_option linter.unusedVariables false
namespace Mine
open PySem PySem.W PySem.Calls PyProof.Rows
/-- what the law holds on to -/
structure St (H : AHeap) (l : Addr) (ns : List Int) (cb : Addr) (bs : List Int) (s f : Addr) : Prop where
  script : H l = some (.script ns)
  base : H cb = some (.list (vi bs))
  board : H s = some (.board (some f))
  field : H f = some (.list (vi bs))
  good : Good bs
theorem St.ext {H H' : AHeap} {l cb s f : Addr} {ns bs : List Int} (h : St H l ns cb bs s f) (e : Ext H H') : St H' l ns cb bs s f := ⟨e _ _ h.script, e _ _ h.base, e _ _ h.board, e _ _ h.field, h.good⟩
theorem St.is {H : AHeap} {l cb s f : Addr} {ns bs : List Int} (h : St H l ns cb bs s f) : IsBoard H s bs := ⟨h.good, f, h.board, h.field⟩
theorem St.upd {H : AHeap} {l cb s f c : Addr} {ns bs : List Int} {vs : List V} {o : AObj} (h : St H l ns cb bs s f) (hc : H c = some (.list vs)) (n1 : cb ≠ c) (n2 : f ≠ c) : St (H.upd c o) l ns cb bs s f :=
  ⟨(upd_ne (fun q => by have := h.script; rw [q, hc] at this; cases this)).trans h.script, (upd_ne n1).trans h.base, (upd_ne (fun q => by have := h.board; rw [q, hc] at this; cases this)).trans h.board, (upd_ne n2).trans h.field, h.good⟩
section
variable {G : Gd} {j n : Nat} {hd : Bool} {H : AHeap} {k : V → AHeap → Prop} {x : XE} {s b c d r l cb : Addr} {bs rs ns : List Int} {m : AMap} {a a' a'' e : P} {u u' u'' v : V} {f : Str} {params : List Str} {p : P} {vs us : List V}
theorem ev_cell (L : Lib G.K) (hn : 2 ≤ n) {i : Nat} {y : Str} (hy : m y = some (.ref l)) (hs : H l = some (.script ns)) : Ev G n false m H (.call "_law_cell_at" (.cons (.name y) (.cons (.const (.int i)) .nil))) (.int (ns.getD i 0)) :=
  fun k x hk => wpE_call L.cell_at hn ⟨_, hy, rfl, c_cell_at hs hk⟩
theorem lc {l : P} {k : List V → AHeap → Prop} (h : wpE G n hd a m H (fun v H1 => wpL G n hd l m H1 (fun vs H2 => k (v :: vs) H2) x) x) : wpL G n hd (.cons a l) m H k x := h
theorem bin_ {o : Op} (h : wpE G n hd a m H (fun u H1 => wpE G n hd a' m H1 (fun v H2 => wpBin o u v H2 k) x) x) : wpE G n hd (.bin o a a') m H k x := h
theorem call1 (D : Def G.K f params p) (hn : 2 ≤ n) (ha : Ev G n false m H a u) (hl : params.length = 1) (h : FnC G (n - 2) params p [u] H k x) : wpE G n false (.call f (.cons a .nil)) m H k x := wpE_call D hn (ha _ _ ⟨hl.symm, h⟩)
theorem call2 (D : Def G.K f params p) (hn : 2 ≤ n) (ha : Ev G n false m H a u) (hb : Ev G n false m H a' u') (hl : params.length = 2) (h : FnC G (n - 2) params p [u, u'] H k x) : wpE G n false (.call f (.cons a (.cons a' .nil))) m H k x := wpE_call D hn (ha _ _ (hb _ _ ⟨hl.symm, h⟩))
theorem call3 (D : Def G.K f params p) (hn : 2 ≤ n) (ha : Ev G n false m H a u) (hb : Ev G n false m H a' u') (hc : Ev G n false m H a'' u'') (hl : params.length = 3) (h : FnC G (n - 2) params p [u, u', u''] H k x) : wpE G n false (.call f (.cons a (.cons a' (.cons a'' .nil)))) m H k x := wpE_call D hn (ha _ _ (hb _ _ (hc _ _ ⟨hl.symm, h⟩)))
theorem meth1 {q : Option Addr} (M : Meth G.K f params p) (hn : 2 ≤ n) (ho : Ev G n false m H e (.ref s)) (hs : H s = some (.board q)) (ha : Ev G n false m H a u) (hl : params.length = 2) (h : FnC G (n - 2) params p [.ref s, u] H k x) : wpE G n false (.meth e f (.cons a .nil)) m H k x := ⟨rfl, ho _ _ ⟨methPre_board M hs, ha _ _ (wpMeth_board M hn hs hl.symm h)⟩⟩
theorem app1 (ho : Ev G n false m H e (.ref c)) (ha : Ev G n false m H a v) (hc : H c = some (.list us)) (hl : us.length < 1000) (h : k .none (H.upd c (.list (us ++ [v])))) : wpE G n false (.meth e "append" (.cons a .nil)) m H k x := ⟨rfl, ho _ _ ⟨methPre_list hc, ha _ _ (append_at' hc hc hl h)⟩⟩
theorem make1 (L : Lib G.K) (hn : 6 ≤ n) (ha : Ev G n false m H a (.ref b)) (hb : H b = some (.list (vi bs))) (g : Good bs) (h : ∀ s f H', Ext H H' → H f = none → H' s = some (.board (some f)) → H' f = some (.list (vi bs)) → k (.ref s) H') : wpE G n false (.make "Board" (.cons a .nil)) m H k x :=
  wpE_make L.init (by omega) (ha _ _ ⟨rfl, fun s hs => c_init L (by omega) hs hb (fun _ H3 f E hf hB hF => h s f H3 E hf hB hF) fun ng => absurd g ng⟩)
theorem list_at (hc : H c = some (.list us)) (h : ∀ d, H d = none → k (.ref d) (H.upd d (.list us))) : wpBi hd "list" [.ref c] H k := by
  unfold wpBi; dsimp only; rw [hc]; exact .inr (.inl ⟨rfl, h⟩)
theorem copy1 (ha : Ev G n hd m H a (.ref c)) (hc : H c = some (.list us)) (h : ∀ d H', Ext H H' → H d = none → H' d = some (.list us) → k (.ref d) H') : wpE G n hd (.bi "list" (.cons a .nil)) m H k x :=
  ha _ _ (list_at hc fun d hd => h d _ (Ext.new hd) hd upd_at)
theorem lst1 (ha : Ev G n hd m H a v) (h : ∀ d, H d = none → k (.ref d) (H.upd d (.list [v]))) : wpE G n hd (.list (.cons a .nil)) m H k x := ha _ _ ⟨by simp, h⟩
theorem cat_at (h1 : H c = some (.list us)) (h2 : H d = some (.list vs)) (hl : us.length + vs.length ≤ 1000) (h : ∀ t, H t = none → k (.ref t) (H.upd t (.list (us ++ vs)))) : wpBin .add (.ref c) (.ref d) H k := ⟨us, vs, h1, h2, hl, h⟩
theorem sl_take {i : Nat} (ho : Ev G n hd m H e (.ref c)) (hi : Ev G n hd m H a (.int i)) (hc : H c = some (.list us)) (hl : i ≤ us.length) (h : ∀ d, H d = none → k (.ref d) (H.upd d (.list (us.take i)))) : wpE G n hd (.slice e (.const .none) a) m H k x := ho _ _ (hi _ _ (slice_take hc hl h))
theorem sl_drop {i : Nat} (ho : Ev G n hd m H e (.ref c)) (hi : Ev G n hd m H a (.int i)) (hc : H c = some (.list us)) (hl : i ≤ us.length) (h : ∀ d, H d = none → k (.ref d) (H.upd d (.list (us.drop i)))) : wpE G n hd (.slice e a (.const .none)) m H k x := ho _ _ (hi _ _ (slice_drop hc hl h))
theorem ev_isExc {q : Str} (ha : Ev G n hd m H a (.ref d)) (h' : H d = some (.exc q)) (h1 : f = "ValueError" ∨ excOk G.K f = true) (h2 : subcls q f = true) : Ev G n hd m H (.isinst a f) (.bool true) := fun _ _ h => ha _ _ (by unfold wpIs; dsimp only; rw [h']; exact ⟨h1, h2, h⟩)
/-- a row with another rest at a place -/
theorem put1 {i : Nat} {e1 e2 : P} (ho : ∀ H', Ext H H' → Ev G n hd m H' e (.ref c)) (h1 : ∀ H', Ext H H' → Ev G n hd m H' e1 (.int i)) (h2 : ∀ H', Ext H H' → Ev G n hd m H' e2 (.int ((i : Int) + 1))) (hw : ∀ H', Ext H H' → Ev G n hd m H' a v) (hc : H c = some (.list us)) (hi : i < us.length) (hl : us.length ≤ 500)
    (h : ∀ d H', Ext H H' → H d = none → H' d = some (.list (us.set i v)) → k (.ref d) H') : wpE G n hd (.bin .add (.bin .add (.slice e (.const .none) e1) (.list (.cons a .nil))) (.slice e e2 (.const .none))) m H k x := by
  refine bin_ (bin_ (sl_take (ho _ Ext.refl) (h1 _ Ext.refl) hc (by omega) fun d1 f1 => ?_))
  have E1 := Ext.new (o := .list (us.take i)) f1
  refine lst1 (hw _ E1) fun d2 f2 => ?_
  have E2 := E1.trans (Ext.new (o := .list [v]) f2)
  have g1 := Ext.new (o := .list [v]) f2 _ _ (upd_at (H := H) (a := d1) (o := .list (us.take i)))
  refine cat_at g1 upd_at (by rw [List.length_take]; simp; omega) fun d3 f3 => ?_
  have E3 := E2.trans (Ext.new (o := .list (us.take i ++ [v])) f3)
  refine sl_drop (i := i + 1) (ho _ E3) (h2 _ E3) (E3 _ _ hc) (by omega) fun d4 f4 => ?_
  have E4 := E3.trans (Ext.new (o := .list (us.drop (i + 1))) f4)
  refine cat_at (Ext.new f4 _ _ upd_at) upd_at (by rw [List.length_append, List.length_take, List.length_drop]; simp; omega) fun d5 f5 => ?_
  exact h d5 _ (E4.trans (Ext.new f5)) (E4.fresh f5) (by rw [upd_at, take_cons_drop hi])
/-- a row without a place -/
theorem cut1 {i : Nat} {e1 e2 : P} (ho : ∀ H', Ext H H' → Ev G n hd m H' e (.ref c)) (h1 : ∀ H', Ext H H' → Ev G n hd m H' e1 (.int i)) (h2 : ∀ H', Ext H H' → Ev G n hd m H' e2 (.int ((i : Int) + 1))) (hc : H c = some (.list us)) (hi : i < us.length) (hl : us.length ≤ 500)
    (h : ∀ d H', Ext H H' → H d = none → H' d = some (.list (us.eraseIdx i)) → k (.ref d) H') : wpE G n hd (.bin .add (.slice e (.const .none) e1) (.slice e e2 (.const .none))) m H k x := by
  refine bin_ (sl_take (ho _ Ext.refl) (h1 _ Ext.refl) hc (by omega) fun d1 f1 => ?_)
  have E1 := Ext.new (o := .list (us.take i)) f1
  refine sl_drop (i := i + 1) (ho _ E1) (h2 _ E1) (E1 _ _ hc) (by omega) fun d4 f4 => ?_
  have E4 := E1.trans (Ext.new (o := .list (us.drop (i + 1))) f4)
  refine cat_at (Ext.new f4 _ _ upd_at) upd_at (by rw [List.length_take, List.length_drop]; omega) fun d5 f5 => ?_
  exact h d5 _ (E4.trans (Ext.new f5)) (E4.fresh f5) (by rw [upd_at, List.eraseIdx_eq_take_drop_succ])
/-- one thing more at the end -/
theorem end1 (ho : Ev G n hd m H e (.ref c)) (hw : Ev G n hd m H a v) (hc : H c = some (.list us)) (hl : us.length ≤ 500)
    (h : ∀ d H', Ext H H' → H d = none → H' d = some (.list (us ++ [v])) → k (.ref d) H') : wpE G n hd (.bin .add e (.list (.cons a .nil))) m H k x := by
  refine bin_ (ho _ _ (lst1 hw fun d2 f2 => ?_))
  have E2 := Ext.new (o := .list [v]) f2
  refine cat_at (E2 _ _ hc) upd_at (by simp; omega) fun d5 f5 => ?_
  exact h d5 _ (E2.trans (Ext.new f5)) (E2.fresh f5) upd_at
theorem comp_row {it : P} {y : Str} {fv : List Str} (N : Int) (hit : Ev G n false m H it (.ref c)) (hc : H c = some (.list (vi bs))) (hel : ∀ b ∈ bs, Ev G n false ((m.only fv).set y (.int b)) H e (.int (N % b))) (h : ∀ d H', Ext H H' → H d = none → H' d = some (.list (vi (rowOf N bs))) → k (.ref d) H') : wpE G n false (.comp false e y fv it (.const (.bool true))) m H k x :=
  comp_map (fun b => N % b) hit hc (fun b hb k hk => hel b hb k _ hk) fun d hd => h d _ (Ext.new hd) hd upd_at
theorem vi_set {i : Nat} {w : Int} : (vi rs).set i (.int w) = vi (rs.set i w) := by simp [vi, List.map_set]
theorem vi_erase {i : Nat} : (vi rs).eraseIdx i = vi (rs.eraseIdx i) := by unfold vi; rw [List.eraseIdx_eq_take_drop_succ, List.eraseIdx_eq_take_drop_succ, List.map_append, List.map_take, List.map_drop]
theorem vi_end {w : Int} : vi rs ++ [.int w] = vi (rs ++ [w]) := by simp [vi]
theorem wrong_at {b r t : Int} (h0 : 0 ≤ r) (h1 : r < b) (t1 : 1 ≤ t) (t2 : t < b) : (r + t) % b ≠ r ∧ 0 ≤ (r + t) % b ∧ (r + t) % b < b := by
  refine ⟨fun e => ?_, Int.emod_nonneg _ (by omega), Int.emod_lt_of_pos _ (by omega)⟩
  have e2 : (r + t) % b = r % b := by rw [e, Int.emod_eq_of_lt h0 h1]
  have e3 := Int.emod_eq_emod_iff_emod_sub_eq_zero.mp e2
  rw [show r + t - r = t by omega, Int.emod_eq_of_lt (by omega) t2] at e3
  omega
theorem wrong_row {N w t : Int} {i : Nat} (g : Good bs) (h0 : 0 ≤ N) (h1 : N < room bs) (hb : bs[i]? = some t) (w0 : 0 ≤ w) (w1 : w < t) (hne : w ≠ N % t) : Rests ((rowOf N bs).set i w) bs ∧ ¬ crt ((rowOf N bs).set i w) bs < room bs := by
  have hl : ((rowOf N bs).set i w).length = bs.length := by rw [List.length_set, rowOf_length]
  have hi := (List.getElem?_eq_some_iff.mp hb).1
  have hw : ((rowOf N bs).set i w)[i]? = some w := List.getElem?_set_self (by rw [rowOf_length]; exact hi)
  have he : ∀ k : Nat, k ≠ i → ((rowOf N bs).set i w)[k]? = (rowOf N bs)[k]? := fun k hk => List.getElem?_set_ne (Ne.symm hk)
  refine ⟨Rests.of_get hl fun k r b hr hb' => ?_, fun z => ?_⟩
  · by_cases e : k = i
    · subst e; rw [hw] at hr; cases hr; rw [hb] at hb'; cases hb'; exact ⟨w0, w1⟩
    · rw [he k e] at hr; exact (rests_rowOf N g.pos).get hr hb'
  · have := wrong_tells_none g hl h0 h1 i hb hw (by rw [Int.emod_eq_of_lt w0 w1]; exact hne) he
    omega
theorem far_row {N : Int} (g : Good bs) (h0 : 0 ≤ N) (h1 : N < room bs) : Rests (rowOf (N + room bs) bs) bs ∧ ¬ crt (rowOf (N + room bs) bs) bs < room bs := by
  have := room_lt_prod g
  refine ⟨rests_rowOf _ g.pos, ?_⟩
  rw [crt_rowOf g.ok (by omega) (by omega)]
  omega
end

noncomputable def p_law_none : P := (.cons (.assign "_law_at" (.bin .mod (.bin .fdiv (.name "_law_cell") (.const (.int 4))) (.bi "len" (.cons (.name "_law_row_here") .nil))))
  (.cons (.assign "_law_rest" (.bin .add (.sub (.name "_law_bases_here") (.name "_law_at")) (.bin .mul (.bin .mod (.bin .fdiv (.name "_law_cell") (.const (.int 60))) (.const (.int 3))) (.const (.int 1000)))))
  (.cons (.ite (.cmp .eq (.bin .mod (.name "_law_cell") (.const (.int 4))) (.const (.int 1))) (.cons (.assign "_law_rest" (.bin .sub (.neg (.const (.int 1))) (.bin .mod (.bin .fdiv (.name "_law_cell") (.const (.int 60))) (.const (.int 3)))))
  .nil) .nil)
  (.cons (.ite (.cmp .lt (.bin .mod (.name "_law_cell") (.const (.int 4))) (.const (.int 2))) (.cons (.ret (.bin .add (.bin .add (.slice (.name "_law_row_here") (.const .none) (.name "_law_at")) (.list (.cons (.name "_law_rest") .nil))) (.slice (.name "_law_row_here") (.bin .add (.name "_law_at") (.const (.int 1))) (.const .none))))
  .nil) .nil)
  (.cons (.ite (.cmp .eq (.bin .mod (.name "_law_cell") (.const (.int 4))) (.const (.int 2))) (.cons (.ret (.bin .add (.slice (.name "_law_row_here") (.const .none) (.name "_law_at")) (.slice (.name "_law_row_here") (.bin .add (.name "_law_at") (.const (.int 1))) (.const .none))))
  .nil) .nil)
  (.cons (.ret (.bin .add (.name "_law_row_here") (.list (.cons (.const (.int 0)) .nil))))
  .nil))))))
noncomputable def a_law_none : List Str := ["_law_row_here", "_law_bases_here", "_law_cell"]
section
variable {G : Gd} {j n : Nat} {H : AHeap} {k : V → AHeap → Prop} {kn : AMap → AHeap → Prop} {x : XE} {xs : XS} {r b : Addr} {bs rs : List Int} {m : AMap} {cell w t : Int} {i : Nat}
theorem none_tail (hr : H r = some (.list (vi rs))) (R : Rests rs bs) (hl : rs.length ≤ 14) (hi : i < rs.length) (hb : bs[i]? = some t) (hw : ¬ (0 ≤ w ∧ w < t)) (m1 : m "_law_row_here" = some (.ref r)) (m2 : m "_law_at" = some (.int i)) (m3 : m "_law_rest" = some (.int w)) (m4 : m "_law_cell" = some (.int cell))
    (h : ∀ c ws H', Ext H H' → H c = none → H' c = some (.list (vi ws)) → ¬ Rests ws bs → ws.length ≤ 20 → k (.ref c) H') : wpS G j false (tailP (tailP (tailP p_law_none))) m H kn k xs := by
  unfold p_law_none tailP
  dsimp only
  have hlen := R.length
  have hv : (vi rs).length = rs.length := vi_length
  refine s_if (ev_lt (ev_mod (ev_name m4) ev_const (by decide)) ev_const) (fun _ => s_ret (put1 (fun _ _ => ev_name m1) (fun _ _ => ev_name m2) (fun _ _ => ev_add (ev_name m2) ev_const) (fun _ _ => ev_name m3) hr (by omega) (by omega) fun c H' E fc hc => ?_)) fun _ => s_nil (s_if (ev_eq (ev_mod (ev_name m4) ev_const (by decide)) ev_const) (fun _ => s_ret (cut1 (fun _ _ => ev_name m1) (fun _ _ => ev_name m2) (fun _ _ => ev_add (ev_name m2) ev_const) hr (by omega) (by omega) fun c H' E fc hc => ?_)) fun _ => s_nil (s_ret (end1 (ev_name m1) ev_const hr (by omega) fun c H' E fc hc => ?_)))
  · rw [vi_set] at hc
    refine h c _ H' E fc hc (fun z => hw ?_) (by rw [List.length_set]; omega)
    exact z.get (List.getElem?_set_self hi) hb
  · rw [vi_erase] at hc
    refine h c _ H' E fc hc (fun z => ?_) (by rw [List.length_eraseIdx]; split <;> omega)
    have := z.length
    rw [List.length_eraseIdx, if_pos hi] at this
    omega
  · rw [vi_end] at hc
    refine h c _ H' E fc hc (fun z => ?_) (by rw [List.length_append]; simp; omega)
    have := z.length
    rw [List.length_append] at this
    simp at this
    omega
theorem c_law_none (hr : H r = some (.list (vi rs))) (hb : H b = some (.list (vi bs))) (R : Rests rs bs) (g : Good bs)
    (h : ∀ c ws H', Ext H H' → H c = none → H' c = some (.list (vi ws)) → ¬ Rests ws bs → ws.length ≤ 20 → k (.ref c) H') : FnC G j a_law_none p_law_none [.ref r, .ref b, .int cell] H k x := by
  have hlen := R.length
  have hl := g.len
  have hv : (vi rs).length = rs.length := vi_length
  unfold FnC p_law_none a_law_none
  refine s_set (ev_mod (ev_fdiv (ev_name rfl) ev_const (by decide) (by decide)) (ev_len (ev_name rfl) hr) (by omega)) ?_
  obtain ⟨i, hi, hil⟩ : ∃ i : Nat, cell / 4 % ((vi rs).length : Int) = i ∧ i < rs.length := by
    have h1 := Int.emod_nonneg (cell / 4) (b := ((vi rs).length : Int)) (by omega)
    have h2 := Int.emod_lt_of_pos (cell / 4) (b := ((vi rs).length : Int)) (by omega)
    exact ⟨(cell / 4 % ((vi rs).length : Int)).toNat, by omega, by omega⟩
  rw [hi]
  obtain ⟨t, ht⟩ : ∃ t, bs[i]? = some t := ⟨_, List.getElem?_eq_getElem (by omega)⟩
  refine s_set (ev_add (ev_item (ev_name rfl) (ev_name set_at) hb (itemAt_pos (vi_get ht))) (ev_mul (ev_mod (ev_fdiv (ev_name rfl) ev_const (by decide) (by decide)) ev_const (by decide)) ev_const (.inr (.inl (by unfold Sm; decide))))) ?_
  have e0 : 0 ≤ cell / 60 % 3 := Int.emod_nonneg _ (by decide)
  refine s_if (ev_eq (ev_mod (ev_name rfl) ev_const (by decide)) ev_const) (fun _ => s_set (ev_minus (ev_neg ev_const) (ev_mod (ev_fdiv (ev_name rfl) ev_const (by decide) (by decide)) ev_const (by decide))) (s_nil ?_)) fun _ => s_nil ?_
  · exact none_tail (m := _) hr R (by omega) hil ht (w := -1 - cell / 60 % 3) (by omega) rfl rfl rfl rfl h
  · exact none_tail (m := _) hr R (by omega) hil ht (w := t + cell / 60 % 3 * 1000) (by omega) rfl rfl rfl rfl h
end
end Mine
end
section
set_option linter.unusedVariables false
namespace Mine
open PySem PySem.W PySem.Calls PyProof.Rows
theorem set_set {m : AMap} {y : Str} {u w : V} : (m.set y u).set y w = m.set y w := funext fun z => by unfold AMap.set; by_cases h : z = y <;> simp [h]
section
variable {G : Gd} {j n : Nat} {hd : Bool} {H : AHeap} {k : V → AHeap → Prop} {x : XE} {s b c d r l cb : Addr} {bs rs ns as ds : List Int} {m : AMap} {a a' e : P} {u u' v : V} {y : Str} {kn : AMap → AHeap → Prop} {kr : V → AHeap → Prop} {xs : XS}
/-- a name set anew in some cases -/
theorem s_ifset {c a l : P} {p : Bool} {w : V} {Q : V → AHeap → Prop} (hc : Ev G n hd (m.set y w) H c (.bool p)) (ha : p = true → ∀ (k : V → AHeap → Prop) (x : XE), (∀ w' H', Ext H H' → Q w' H' → k w' H') → wpE G n hd a (m.set y w) H k x) (h0 : p = false → Q w H)
    (h : ∀ w' H', Ext H H' → Q w' H' → wpS G n hd l (m.set y w') H' kn kr xs) : wpS G n hd (.cons (.ite c (.cons (.assign y a) .nil) .nil) l) (m.set y w) H kn kr xs := by
  refine s_if hc (fun z => s_assign (ha z _ _ fun w' H' E q => s_nil ?_)) fun z => s_nil (h _ _ Ext.refl (h0 z))
  rw [set_set]; exact h _ _ E q
theorem nest2 {a1 a2 : Addr} (hc : H c = some (.list [.ref a1, .ref a2])) (h1 : H a1 = some (.list (vi as))) (h2 : H a2 = some (.list (vi bs))) : adata H 3 (.ref c) = some (.list [.list (as.map PyData.int), .list (bs.map PyData.int)]) := by
  unfold adata
  rw [hc]
  show Option.map PyData.list (List.mapM (adata H 2) [.ref a1, .ref a2]) = _
  simp only [List.mapM_cons, List.mapM_nil, adata_vi h1, adata_vi h2]
  rfl
theorem eqvAll_ints {as bs : List Int} : PyData.eqvAll (as.map PyData.int) (bs.map PyData.int) = decide (as = bs) := PySem.W.ked_eqvAll as bs
/-- two lists in a list, the same as at first -/
theorem same2 {a1 a2 b1 b2 : Addr} (hc : H c = some (.list [.ref a1, .ref a2])) (h1 : H a1 = some (.list (vi as))) (h2 : H a2 = some (.list (vi bs))) (g1 : H b1 = some (.list (vi as))) (g2 : H b2 = some (.list (vi bs))) (he : Ev G n hd m H e (.ref c)) (ha : Ev G n hd m H a (.ref b1)) (ha' : Ev G n hd m H a' (.ref b2))
    (h : ∀ H', Ext H H' → k (.bool false) H') : wpE G n hd (.cmp .ne e (.list (.cons a (.cons a' .nil)))) m H k x := by
  refine he _ _ (ha _ _ (ha' _ _ ⟨by simp, fun d hd => ?_⟩))
  have E := Ext.new (o := .list [.ref b1, .ref b2]) hd
  refine ⟨_, _, nest2 (E _ _ hc) (E _ _ h1) (E _ _ h2), nest2 upd_at (E _ _ g1) (E _ _ g2), ?_⟩
  have : (!PyData.eqv (.list [.list (as.map PyData.int), .list (bs.map PyData.int)]) (.list [.list (as.map PyData.int), .list (bs.map PyData.int)])) = false := by
    simp [PyData.eqv, PyData.eqvAll, eqvAll_ints]
  rw [this]; exact h _ E
/-- two words, as they should be -/
theorem adata_str {i : Nat} {w : Str} (h : PyData.strOk w = true) : adata H i (.str w) = some (.str w) := by unfold adata; cases i <;> simp [h]
theorem words_ne {w w' : Str} (h : PyData.strOk w = true) (h' : PyData.strOk w' = true) {q : Bool → Prop} (hq : q (!(w == w'))) : wpCmp .ne (.str w) (.str w') H q := ⟨_, _, adata_str h, adata_str h', by simp only [PyData.eqv]; exact hq⟩
theorem word_ne {w w' : Str} (h : PyData.strOk w = true) (h' : PyData.strOk w' = true) (ha : Ev G n hd m H a (.str w)) (hb : Ev G n hd m H a' (.str w')) : Ev G n hd m H (.cmp .ne a a') (.bool (!(w == w'))) := fun _ _ hk => ha _ _ (hb _ _ (words_ne h h' hk))
theorem strs_data {ws : List Str} (hw : ∀ w ∈ ws, PyData.strOk w = true) (hc : H c = some (.list (ws.map V.str))) : adata H 3 (.ref c) = some (.list (ws.map PyData.str)) := by
  have key : ∀ ws : List Str, (∀ w ∈ ws, PyData.strOk w = true) → (ws.map V.str).mapM (adata H 2) = some (ws.map PyData.str) := by
    intro ws
    induction ws with
    | nil => intro _; rfl
    | cons w ws ih =>
      intro hw
      rw [List.map_cons, List.mapM_cons, adata_str (hw w (.head _)), ih fun w h => hw w (.tail _ h)]
      rfl
  unfold adata
  rw [hc]
  show Option.map PyData.list ((ws.map V.str).mapM (adata H 2)) = _
  rw [key ws hw]; rfl
theorem eqv_strs : ∀ ws : List Str, PyData.eqvAll (ws.map PyData.str) (ws.map PyData.str) = true
  | [] => by simp [PyData.eqvAll]
  | w :: ws => by simp [PyData.eqvAll, PyData.eqv, eqv_strs ws]
/-- a place of the bases -/
theorem place_of {i : Int} (g : Good bs) : ∃ q : Nat, i % ((vi bs).length : Int) = q ∧ q < bs.length ∧ ∃ t, bs[q]? = some t ∧ 3 ≤ t ∧ t ≤ 999999 := by
  have hl := g.len
  have hv : (vi bs).length = bs.length := vi_length
  have h1 := Int.emod_nonneg i (b := ((vi bs).length : Int)) (by omega)
  have h2 := Int.emod_lt_of_pos i (b := ((vi bs).length : Int)) (by omega)
  refine ⟨(i % ((vi bs).length : Int)).toNat, by omega, by omega, _, List.getElem?_eq_getElem (by omega), g.rng _ (List.getElem_mem _)⟩
theorem vi_pos (g : Good bs) : 0 < ((vi bs).length : Int) := by have := g.len; rw [vi_length]; omega
/-- a row of a number of the room -/
structure RowIs (bs : List Int) (N : Int) : Prop where
  rests : Rests (rowOf N bs) bs
  crt : crt (rowOf N bs) bs = N
  lt : Mine.crt (rowOf N bs) bs < room bs
  len : (rowOf N bs).length ≤ 1000
theorem rowIs {N : Int} (g : Good bs) (n0 : 0 ≤ N) (n1 : N < room bs) : RowIs bs N := by
  have e := crt_rowOf g.ok n0 (room_lt g n1)
  exact ⟨rests_rowOf N g.pos, e, by rw [e]; exact n1, by rw [rowOf_length]; have := g.len; omega⟩
end
end Mine
end
section
set_option linter.unusedVariables false
namespace Mine
open PySem PySem.W PySem.Calls PyProof.Rows
noncomputable def p_added : P := (.cons (.assign "first" (.meth (.name "board") "number" (.cons (.name "one") .nil)))
  (.cons (.assign "second" (.meth (.name "board") "number" (.cons (.name "other") .nil)))
  (.cons (.ret (.meth (.name "board") "rests" (.cons (.bin .add (.name "first") (.name "second")) .nil)))
  .nil)))
noncomputable def a_added : List Str := ["board", "one", "other"]
noncomputable def p_taken : P := (.cons (.assign "first" (.meth (.name "board") "number" (.cons (.name "one") .nil)))
  (.cons (.assign "second" (.meth (.name "board") "number" (.cons (.name "other") .nil)))
  (.cons (.ret (.meth (.name "board") "rests" (.cons (.bin .sub (.name "first") (.name "second")) .nil)))
  .nil)))
noncomputable def a_taken : List Str := ["board", "one", "other"]
noncomputable def p_law_word : P := (.cons (.tryE (.cons (.ite (.cmp .eq (.name "_law_way") (.const (.int 0))) (.cons (.ret (.call "added" (.cons (.name "_law_board") (.cons (.name "_law_one") (.cons (.name "_law_other") .nil)))))
  .nil) .nil)
  (.cons (.ret (.call "taken" (.cons (.name "_law_board") (.cons (.name "_law_one") (.cons (.name "_law_other") .nil)))))
  .nil)) (.cons (.handler "OutOfRoom" Option.none (.cons (.ret (.const (.str "out of room")))
  .nil)) (.cons (.handler "NoNumber" Option.none (.cons (.ret (.const (.str "no number")))
  .nil)) (.cons (.handler "NoRow" Option.none (.cons (.ret (.const (.str "no row")))
  .nil)) (.cons (.handler "RestError" Option.none (.cons (.ret (.const (.str "another refusal")))
  .nil)) .nil)))))
  .nil)
noncomputable def a_law_word : List Str := ["_law_board", "_law_way", "_law_one", "_law_other"]
noncomputable def p_law_refused_by_any : P := (.cons (.tryE (.cons (.expr (.call "added" (.cons (.name "_law_board") (.cons (.name "_law_one") (.cons (.name "_law_other") .nil)))))
  .nil) (.cons (.handler "RestError" (some "e") (.cons (.ret (.isinst (.name "e") "ValueError"))
  .nil)) .nil))
  (.cons (.ret (.const (.bool false)))
  .nil))
noncomputable def a_law_refused_by_any : List Str := ["_law_board", "_law_one", "_law_other"]
noncomputable def p_law_refusals : P := (.cons (.forR "_law_kind" (.cons (.const (.int 2)) .nil) (.cons (.assign "_law_words" (.list (.cons (.call "_law_word" (.cons (.name "_law_board") (.cons (.name "_law_kind") (.cons (.name "_law_wrong") (.cons (.name "_law_right") .nil))))) (.cons (.call "_law_word" (.cons (.name "_law_board") (.cons (.name "_law_kind") (.cons (.name "_law_right") (.cons (.name "_law_wrong") .nil))))) .nil))))
  (.cons (.assign "_law_words" (.bin .add (.name "_law_words") (.list (.cons (.call "_law_word" (.cons (.name "_law_board") (.cons (.name "_law_kind") (.cons (.name "_law_wrong") (.cons (.name "_law_none_here") .nil))))) .nil))))
  (.cons (.ite (.cmp .ne (.name "_law_words") (.list (.cons (.const (.str "no number")) (.cons (.const (.str "no number")) (.cons (.const (.str "no number")) .nil))))) (.cons (.ret (.const (.bool false)))
  .nil) .nil)
  (.cons (.assign "_law_words" (.list (.cons (.call "_law_word" (.cons (.name "_law_board") (.cons (.name "_law_kind") (.cons (.name "_law_none_here") (.cons (.name "_law_wrong") .nil))))) (.cons (.call "_law_word" (.cons (.name "_law_board") (.cons (.name "_law_kind") (.cons (.name "_law_left") (.cons (.name "_law_none_here") .nil))))) .nil))))
  (.cons (.ite (.cmp .ne (.name "_law_words") (.list (.cons (.const (.str "no row")) (.cons (.const (.str "no row")) .nil)))) (.cons (.ret (.const (.bool false)))
  .nil) .nil)
  .nil))))))
  (.cons (.ret (.const (.bool true)))
  .nil))
noncomputable def a_law_refusals : List Str := ["_law_board", "_law_left", "_law_right", "_law_wrong", "_law_none_here"]
noncomputable def p_law_itself : P := (.cons (.assign "_law_row_here" (.comp false (.bin .mod (.name "_law_one") (.name "_law_base")) "_law_base" ["_law_one"] (.name "_law_bases_here") (.const (.bool true))))
  (.cons (.assign "_law_twice" (.call "_law_word" (.cons (.name "_law_board") (.cons (.const (.int 0)) (.cons (.name "_law_row_here") (.cons (.name "_law_row_here") .nil))))))
  (.cons (.ite (.and (.cmp .lt (.bin .mul (.const (.int 2)) (.name "_law_one")) (.name "_law_room_here")) (.not (.call "_law_row" (.cons (.name "_law_twice") (.cons (.comp false (.bin .mod (.bin .mul (.const (.int 2)) (.name "_law_one")) (.name "_law_base")) "_law_base" ["_law_one"] (.name "_law_bases_here") (.const (.bool true))) .nil))))) (.cons (.ret (.const (.bool false)))
  .nil) .nil)
  (.cons (.assign "_law_nought" (.comp false (.const (.int 0)) "_law_base" [] (.name "_law_bases_here") (.const (.bool true))))
  (.cons (.ret (.and (.call "_law_row" (.cons (.call "_law_word" (.cons (.name "_law_board") (.cons (.const (.int 1)) (.cons (.name "_law_row_here") (.cons (.name "_law_row_here") .nil))))) (.cons (.name "_law_nought") .nil))) (.cmp .eq (.name "_law_row_here") (.comp false (.bin .mod (.name "_law_one") (.name "_law_base")) "_law_base" ["_law_one"] (.name "_law_bases_here") (.const (.bool true))))))
  .nil)))))
noncomputable def a_law_itself : List Str := ["_law_board", "_law_bases_here", "_law_room_here", "_law_one"]
noncomputable def p_law : P := (.cons (.assign "_law_bases_here" (.call "_law_bases" (.cons (.call "_law_cell_at" (.cons (.name "_law_script") (.cons (.const (.int 0)) .nil))) (.cons (.call "_law_cell_at" (.cons (.name "_law_script") (.cons (.const (.int 1)) .nil))) .nil))))
  (.cons (.assign "_law_room_here" (.call "_law_room" (.cons (.name "_law_bases_here") .nil)))
  (.cons (.assign "_law_board" (.make "Board" (.cons (.name "_law_bases_here") .nil)))
  (.cons (.assign "_law_way" (.call "_law_cell_at" (.cons (.name "_law_script") (.cons (.const (.int 2)) .nil))))
  (.cons (.assign "_law_one" (.call "_law_number" (.cons (.call "_law_cell_at" (.cons (.name "_law_script") (.cons (.const (.int 3)) .nil))) (.cons (.call "_law_cell_at" (.cons (.name "_law_script") (.cons (.const (.int 4)) .nil))) (.cons (.name "_law_room_here") .nil)))))
  (.cons (.assign "_law_other" (.call "_law_number" (.cons (.call "_law_cell_at" (.cons (.name "_law_script") (.cons (.const (.int 5)) .nil))) (.cons (.call "_law_cell_at" (.cons (.name "_law_script") (.cons (.const (.int 6)) .nil))) (.cons (.name "_law_room_here") .nil)))))
  (.cons (.ite (.cmp .eq (.bin .mod (.name "_law_way") (.const (.int 3))) (.const (.int 1))) (.cons (.assign "_law_other" (.bin .mod (.sub (.list (.cons (.bin .sub (.name "_law_room_here") (.name "_law_one")) (.cons (.bin .sub (.bin .sub (.name "_law_room_here") (.name "_law_one")) (.const (.int 1))) (.cons (.name "_law_one") (.cons (.bin .add (.name "_law_one") (.const (.int 1))) .nil))))) (.bin .mod (.bin .fdiv (.name "_law_way") (.const (.int 3))) (.const (.int 4)))) (.name "_law_room_here")))
  .nil) .nil)
  (.cons (.assign "_law_left" (.comp false (.bin .mod (.name "_law_one") (.name "_law_base")) "_law_base" ["_law_one"] (.name "_law_bases_here") (.const (.bool true))))
  (.cons (.assign "_law_right" (.comp false (.bin .mod (.name "_law_other") (.name "_law_base")) "_law_base" ["_law_other"] (.name "_law_bases_here") (.const (.bool true))))
  (.cons (.assign "_law_handed" (.list (.cons (.bi "list" (.cons (.name "_law_left") .nil)) (.cons (.bi "list" (.cons (.name "_law_right") .nil)) .nil))))
  (.cons (.forT "_law_kind" "_law_due" (.list (.cons (.tup (.cons (.const (.int 0)) (.cons (.bin .add (.name "_law_one") (.name "_law_other")) .nil))) (.cons (.tup (.cons (.const (.int 1)) (.cons (.bin .sub (.name "_law_one") (.name "_law_other")) .nil))) .nil))) (.cons (.assign "_law_found" (.call "_law_word" (.cons (.name "_law_board") (.cons (.name "_law_kind") (.cons (.sub (.name "_law_handed") (.const (.int 0))) (.cons (.sub (.name "_law_handed") (.const (.int 1))) .nil))))))
  (.cons (.ite (.or (.cmp .lt (.name "_law_due") (.const (.int 0))) (.cmp .ge (.name "_law_due") (.name "_law_room_here"))) (.cons (.ite (.cmp .ne (.name "_law_found") (.const (.str "out of room"))) (.cons (.ret (.const (.bool false)))
  .nil) .nil)
  .nil) (.cons (.ite (.not (.call "_law_row" (.cons (.name "_law_found") (.cons (.comp false (.bin .mod (.name "_law_due") (.name "_law_base")) "_law_base" ["_law_due"] (.name "_law_bases_here") (.const (.bool true))) .nil)))) (.cons (.ret (.const (.bool false)))
  .nil) (.cons (.expr (.meth (.name "_law_found") "append" (.cons (.const (.int 0)) .nil)))
  (.cons (.ite (.not (.call "_law_row" (.cons (.call "_law_word" (.cons (.name "_law_board") (.cons (.name "_law_kind") (.cons (.sub (.name "_law_handed") (.const (.int 0))) (.cons (.sub (.name "_law_handed") (.const (.int 1))) .nil))))) (.cons (.comp false (.bin .mod (.name "_law_due") (.name "_law_base")) "_law_base" ["_law_due"] (.name "_law_bases_here") (.const (.bool true))) .nil)))) (.cons (.ret (.const (.bool false)))
  .nil) .nil)
  .nil)))
  .nil))
  (.cons (.ite (.cmp .ne (.name "_law_handed") (.list (.cons (.name "_law_left") (.cons (.name "_law_right") .nil)))) (.cons (.ret (.const (.bool false)))
  .nil) .nil)
  .nil))))
  (.cons (.ite (.and (.cmp .ge (.bin .add (.name "_law_one") (.name "_law_other")) (.name "_law_room_here")) (.not (.call "_law_refused_by_any" (.cons (.name "_law_board") (.cons (.name "_law_left") (.cons (.name "_law_right") .nil)))))) (.cons (.ret (.const (.bool false)))
  .nil) .nil)
  (.cons (.assign "_law_at" (.bin .mod (.call "_law_cell_at" (.cons (.name "_law_script") (.cons (.const (.int 7)) .nil))) (.bi "len" (.cons (.name "_law_bases_here") .nil))))
  (.cons (.assign "_law_new" (.bin .mod (.bin .add (.bin .add (.sub (.name "_law_left") (.name "_law_at")) (.const (.int 1))) (.bin .mod (.bin .fdiv (.name "_law_way") (.const (.int 12))) (.const (.int 2)))) (.sub (.name "_law_bases_here") (.name "_law_at"))))
  (.cons (.assign "_law_wrong" (.bin .add (.bin .add (.slice (.name "_law_left") (.const .none) (.name "_law_at")) (.list (.cons (.name "_law_new") .nil))) (.slice (.name "_law_left") (.bin .add (.name "_law_at") (.const (.int 1))) (.const .none))))
  (.cons (.ite (.cmp .eq (.bin .mod (.bin .fdiv (.name "_law_way") (.const (.int 72))) (.const (.int 2))) (.const (.int 1))) (.cons (.assign "_law_wrong" (.comp false (.bin .mod (.bin .add (.name "_law_one") (.name "_law_room_here")) (.name "_law_base")) "_law_base" ["_law_one", "_law_room_here"] (.name "_law_bases_here") (.const (.bool true))))
  .nil) .nil)
  (.cons (.assign "_law_none_here" (.call "_law_none" (.cons (.name "_law_right") (.cons (.name "_law_bases_here") (.cons (.call "_law_cell_at" (.cons (.name "_law_script") (.cons (.const (.int 8)) .nil))) .nil)))))
  (.cons (.ret (.and (.call "_law_itself" (.cons (.name "_law_board") (.cons (.name "_law_bases_here") (.cons (.name "_law_room_here") (.cons (.name "_law_one") .nil))))) (.call "_law_refusals" (.cons (.name "_law_board") (.cons (.name "_law_left") (.cons (.name "_law_right") (.cons (.name "_law_wrong") (.cons (.name "_law_none_here") .nil))))))))
  .nil))))))))))))))))))
noncomputable def a_law : List Str := ["_law_script"]

structure Lib06 (K : Frag) : Prop where
  lib : Lib K
  row : Def K "_law_row" a_law_row p_law_row
  room : Def K "_law_room" a_law_room p_law_room
  number : Def K "_law_number" a_law_number p_law_number
  added : Def K "added" a_added p_added
  taken : Def K "taken" a_taken p_taken
  none : Def K "_law_none" a_law_none p_law_none
  word : Def K "_law_word" a_law_word p_law_word
  any : Def K "_law_refused_by_any" a_law_refused_by_any p_law_refused_by_any
  refusals : Def K "_law_refusals" a_law_refusals p_law_refusals
  itself : Def K "_law_itself" a_law_itself p_law_itself
  law : Def K "law" a_law p_law
/-- the sum or the difference -/
noncomputable def opI (kd a b : Int) : Int := if kd = 0 then a + b else a - b
noncomputable def InR (bs : List Int) (v : Int) : Prop := 0 ≤ v ∧ v < room bs
noncomputable def pOp (o : Op) : P := (.cons (.assign "first" (.meth (.name "board") "number" (.cons (.name "one") .nil)))
  (.cons (.assign "second" (.meth (.name "board") "number" (.cons (.name "other") .nil)))
  (.cons (.ret (.meth (.name "board") "rests" (.cons (.bin o (.name "first") (.name "second")) .nil)))
  .nil)))
/-- a row that tells a number -/
structure Tells (bs rs : List Int) : Prop where
  rests : Rests rs bs
  lt : crt rs bs < room bs
  len : rs.length ≤ 1000
section
variable {G : Gd} {j n : Nat} {hd : Bool} {H : AHeap} {k : V → AHeap → Prop} {x : XE} {s b r d l cb c : Addr} {bs rs ds ns : List Int} {m : AMap} {R N O kd : Int} {a a' : P} {i i' : Int} {kn : AMap → AHeap → Prop} {kr : V → AHeap → Prop} {xs : XS}
theorem c_op {o : Op} {f : Int → Int → Int} (ho : ∀ {m : AMap} {H : AHeap} {a b : P} {u w : Int}, Ev G j false m H a (.int u) → Ev G j false m H b (.int w) → Ev G j false m H (.bin o a b) (.int (f u w))) (L : Lib G.K) (hj : 10 ≤ j) (B : IsBoard H s bs) (hr : H r = some (.list (vi rs))) (hl : rs.length ≤ 1000) (hd : H d = some (.list (vi ds))) (hl' : ds.length ≤ 1000)
    (h1 : Rests rs bs → crt rs bs < room bs → Rests ds bs → crt ds bs < room bs → (InR bs (f (crt rs bs) (crt ds bs)) → ∀ c H', Ext H H' → H c = none → H' c = some (.list (vi (rowOf (f (crt rs bs) (crt ds bs)) bs))) → k (.ref c) H') ∧ (¬ InR bs (f (crt rs bs) (crt ds bs)) → ∀ H', Ext H H' → x "OutOfRoom" H'))
    (h2 : ¬ Rests rs bs → x "NoRow" H) (h3 : Rests rs bs → ¬ crt rs bs < room bs → ∀ H', Ext H H' → x "NoNumber" H')
    (h4 : Rests rs bs → crt rs bs < room bs → ¬ Rests ds bs → ∀ H', Ext H H' → x "NoRow" H') (h5 : Rests rs bs → crt rs bs < room bs → Rests ds bs → ¬ crt ds bs < room bs → ∀ H', Ext H H' → x "NoNumber" H') : FnC G j ["board", "one", "other"] (pOp o) [.ref s, .ref r, .ref d] H k x := by
  obtain ⟨fd, e1, e2⟩ := B.ex
  unfold FnC pOp
  refine s_assign (meth1 L.number (by omega) (ev_name rfl) e1 (ev_name rfl) rfl (c_number L (by omega) B hr hl (fun q lt H1 E1 => ?_) h2 h3))
  refine s_assign (meth1 L.number (by omega) (ev_name rfl) (E1 _ _ e1) (ev_name rfl) rfl (c_number L (by omega) (B.ext E1) (E1 _ _ hd) hl' (fun q' lt' H2 E2 => ?_) (fun z => h4 q lt z H1 E1) fun q' z H2 E2 => h5 q lt q' z H2 (E1.trans E2)))
  have E := E1.trans E2
  obtain ⟨k1, k2⟩ := h1 q lt q' lt'
  refine s_ret (meth1 L.rests (by omega) (ev_name rfl) (E _ _ e1) (ho (ev_name rfl) (ev_name set_at)) rfl (c_rests L (by omega) (B.ext E) (fun h0 h c H3 E3 fc hc => k1 ⟨h0, h⟩ c H3 (E.trans E3) (E.fresh fc) hc) fun z H3 E3 => k2 z H3 (E.trans E3)))
theorem c_word (Q : Lib06 G.K) (hj : 12 ≤ j) (B : IsBoard H s bs) (hr : H r = some (.list (vi rs))) (hl : rs.length ≤ 1000) (hd : H d = some (.list (vi ds))) (hl' : ds.length ≤ 1000)
    (h1 : Rests rs bs → crt rs bs < room bs → Rests ds bs → crt ds bs < room bs → (InR bs (opI kd (crt rs bs) (crt ds bs)) → ∀ c H', Ext H H' → H c = none → H' c = some (.list (vi (rowOf (opI kd (crt rs bs) (crt ds bs)) bs))) → k (.ref c) H') ∧ (¬ InR bs (opI kd (crt rs bs) (crt ds bs)) → ∀ H', Ext H H' → k (.str "out of room") H'))
    (h2 : ¬ Rests rs bs → k (.str "no row") H) (h3 : Rests rs bs → ¬ crt rs bs < room bs → ∀ H', Ext H H' → k (.str "no number") H')
    (h4 : Rests rs bs → crt rs bs < room bs → ¬ Rests ds bs → ∀ H', Ext H H' → k (.str "no row") H') (h5 : Rests rs bs → crt rs bs < room bs → Rests ds bs → ¬ crt ds bs < room bs → ∀ H', Ext H H' → k (.str "no number") H') : FnC G j a_law_word p_law_word [.ref s, .int kd, .ref r, .ref d] H k x := by
  have L := Q.lib
  unfold FnC p_law_word a_law_word
  have e2 : ∀ {H1 : AHeap} {m : AMap} {kn : AMap → AHeap → Prop} {xs : XS} (hs : P), k (.str "no row") H1 → wpH G j (.cons (.handler "OutOfRoom" Option.none (.cons (.ret (.const (.str "out of room"))) .nil)) (.cons (.handler "NoNumber" Option.none (.cons (.ret (.const (.str "no number"))) .nil)) (.cons (.handler "NoRow" Option.none (.cons (.ret (.const (.str "no row"))) .nil)) hs))) "NoRow" m H1 kn k xs := fun hs h => ⟨L.exc (by decide), fun z => absurd z (by decide), fun _ => ⟨L.exc (by decide), fun z => absurd z (by decide), fun _ => ⟨L.exc (by decide), fun _ => h, fun z => absurd z (by decide)⟩⟩⟩
  have e3 : ∀ {H1 : AHeap} {m : AMap} {kn : AMap → AHeap → Prop} {xs : XS} (hs : P), k (.str "no number") H1 → wpH G j (.cons (.handler "OutOfRoom" Option.none (.cons (.ret (.const (.str "out of room"))) .nil)) (.cons (.handler "NoNumber" Option.none (.cons (.ret (.const (.str "no number"))) .nil)) hs)) "NoNumber" m H1 kn k xs := fun hs h => ⟨L.exc (by decide), fun z => absurd z (by decide), fun _ => ⟨L.exc (by decide), fun _ => h, fun z => absurd z (by decide)⟩⟩
  have e1 : ∀ {H1 : AHeap} {m : AMap} {kn : AMap → AHeap → Prop} {xs : XS} (hs : P), k (.str "out of room") H1 → wpH G j (.cons (.handler "OutOfRoom" Option.none (.cons (.ret (.const (.str "out of room"))) .nil)) hs) "OutOfRoom" m H1 kn k xs := fun hs h => ⟨L.exc (by decide), fun _ => h, fun z => absurd z (by decide)⟩
  refine ⟨rfl, s_if (ev_eq (ev_name rfl) ev_const) (fun z => s_ret (call3 Q.added (by omega) (ev_name rfl) (ev_name rfl) (ev_name rfl) rfl (c_op (o := .add) (f := fun a b => a + b) ev_add L (by omega) B hr hl hd hl' (fun q1 q2 q3 q4 => ?_) (fun q => e2 _ (h2 q)) (fun q1 q2 H1 E1 => e3 _ (h3 q1 q2 H1 E1)) (fun q1 q2 q3 H1 E1 => e2 _ (h4 q1 q2 q3 H1 E1)) fun q1 q2 q3 q4 H1 E1 => e3 _ (h5 q1 q2 q3 q4 H1 E1)))) fun z => s_nil (s_ret (call3 Q.taken (by omega) (ev_name rfl) (ev_name rfl) (ev_name rfl) rfl (c_op (o := .sub) (f := fun a b => a - b) ev_minus L (by omega) B hr hl hd hl' (fun q1 q2 q3 q4 => ?_) (fun q => e2 _ (h2 q)) (fun q1 q2 H1 E1 => e3 _ (h3 q1 q2 H1 E1)) (fun q1 q2 q3 H1 E1 => e2 _ (h4 q1 q2 q3 H1 E1)) fun q1 q2 q3 q4 H1 E1 => e3 _ (h5 q1 q2 q3 q4 H1 E1))))⟩
  · have e : opI kd (crt rs bs) (crt ds bs) = crt rs bs + crt ds bs := if_pos (of_decide_eq_true z)
    rw [e] at h1
    exact ⟨(h1 q1 q2 q3 q4).1, fun z H' E => e1 _ ((h1 q1 q2 q3 q4).2 z H' E)⟩
  · have e : opI kd (crt rs bs) (crt ds bs) = crt rs bs - crt ds bs := if_neg (of_decide_eq_false z)
    rw [e] at h1
    exact ⟨(h1 q1 q2 q3 q4).1, fun z H' E => e1 _ ((h1 q1 q2 q3 q4).2 z H' E)⟩
theorem c_word_no {w : Str} (Q : Lib06 G.K) (hj : 12 ≤ j) (B : IsBoard H s bs) (hr : H r = some (.list (vi rs))) (hl : rs.length ≤ 1000) (hd : H d = some (.list (vi ds))) (hl' : ds.length ≤ 1000)
    (hw : (¬ Rests rs bs ∧ w = "no row") ∨ (Rests rs bs ∧ ¬ crt rs bs < room bs ∧ w = "no number") ∨ (Rests rs bs ∧ crt rs bs < room bs ∧ ((¬ Rests ds bs ∧ w = "no row") ∨ (Rests ds bs ∧ ¬ crt ds bs < room bs ∧ w = "no number"))))
    (h : ∀ H', Ext H H' → k (.str w) H') : FnC G j a_law_word p_law_word [.ref s, .int kd, .ref r, .ref d] H k x := by
  rcases hw with ⟨q1, rfl⟩ | ⟨q1, q2, rfl⟩ | ⟨q1, q2, ⟨q3, rfl⟩ | ⟨q3, q4, rfl⟩⟩
  · exact c_word Q hj B hr hl hd hl' (fun z => absurd z q1) (fun _ => h H Ext.refl) (fun z => absurd z q1) (fun z => absurd z q1) fun z => absurd z q1
  · exact c_word Q hj B hr hl hd hl' (fun _ z => absurd z q2) (fun z => absurd q1 z) (fun _ _ => h) (fun _ z => absurd z q2) fun _ z => absurd z q2
  · exact c_word Q hj B hr hl hd hl' (fun _ _ z => absurd z q3) (fun z => absurd q1 z) (fun _ z => absurd q2 z) (fun _ _ _ => h) fun _ _ z => absurd z q3
  · exact c_word Q hj B hr hl hd hl' (fun _ _ _ z => absurd z q4) (fun z => absurd q1 z) (fun _ z => absurd q2 z) (fun _ _ z => absurd q3 z) fun _ _ _ _ => h
theorem c_word_ok (Q : Lib06 G.K) (hj : 12 ≤ j) (B : IsBoard H s bs) (RN : RowIs bs N) (RO : RowIs bs O) (hr : H r = some (.list (vi (rowOf N bs)))) (hd : H d = some (.list (vi (rowOf O bs))))
    (h1 : InR bs (opI kd N O) → ∀ c H', Ext H H' → H c = none → H' c = some (.list (vi (rowOf (opI kd N O) bs))) → k (.ref c) H') (h2 : ¬ InR bs (opI kd N O) → ∀ H', Ext H H' → k (.str "out of room") H') : FnC G j a_law_word p_law_word [.ref s, .int kd, .ref r, .ref d] H k x := by
  refine c_word Q hj B hr RN.len hd RO.len (fun _ _ _ _ => ?_) (fun z => absurd RN.rests z) (fun _ z => absurd RN.lt z) (fun _ _ z => absurd RO.rests z) fun _ _ _ z => absurd RO.lt z
  rw [RN.crt, RO.crt]
  exact ⟨h1, h2⟩
theorem call4 {f : Str} {params : List Str} {p a3 a4 : P} {u u' u3 u4 : V} (D : Def G.K f params p) (hn : 2 ≤ n) (ha : Ev G n false m H a u) (hb : Ev G n false m H a' u') (hc : Ev G n false m H a3 u3) (hd : Ev G n false m H a4 u4) (hl : params.length = 4) (h : FnC G (n - 2) params p [u, u', u3, u4] H k x) : wpE G n false (.call f (.cons a (.cons a' (.cons a3 (.cons a4 .nil))))) m H k x := wpE_call D hn (ha _ _ (hb _ _ (hc _ _ (hd _ _ ⟨hl.symm, h⟩))))
theorem c_any (Q : Lib06 G.K) (hj : 12 ≤ j) (B : IsBoard H s bs) (RN : RowIs bs N) (RO : RowIs bs O) (hr : H r = some (.list (vi (rowOf N bs)))) (hd : H d = some (.list (vi (rowOf O bs)))) (hN : ¬ InR bs (N + O)) (h : ∀ H', Ext H H' → k (.bool true) H') : FnC G j a_law_refused_by_any p_law_refused_by_any [.ref s, .ref r, .ref d] H k x := by
  have L := Q.lib
  unfold FnC p_law_refused_by_any a_law_refused_by_any
  refine ⟨rfl, s_expr (call3 Q.added (by omega) (ev_name rfl) (ev_name rfl) (ev_name rfl) rfl (c_op (o := .add) (f := fun a b => a + b) ev_add L (by omega) B hr RN.len hd RO.len (fun _ _ _ _ => ⟨fun z => absurd (by rw [RN.crt, RO.crt] at z; exact z) hN, fun _ H' E => ⟨L.exc (by decide), fun _ a ha => s_return (ev_isExc (ev_name set_at) upd_at (.inl rfl) (by decide)) (h _ (E.trans (Ext.new ha))), fun z => absurd z (by decide)⟩⟩) (fun z => absurd RN.rests z) (fun _ z => absurd RN.lt z) (fun _ _ z => absurd RO.rests z) fun _ _ _ z => absurd RO.lt z))⟩
theorem strs_ne {ws : List Str} (hw : ∀ w ∈ ws, PyData.strOk w = true) (hc : H c = some (.list (ws.map V.str))) (hd : H d = some (.list (ws.map V.str))) {q : Bool → Prop} (hq : q false) : wpCmp .ne (.ref c) (.ref d) H q :=
  ⟨_, _, strs_data hw hc, strs_data hw hd, by simp only [PyData.eqv, eqv_strs]; exact hq⟩
theorem RowIs.tells (h : RowIs bs N) : Tells bs (rowOf N bs) := ⟨h.rests, h.lt, h.len⟩
theorem c_refusals {e1 e2 e3 e4 : Addr} {xs1 xs2 xs3 xs4 : List Int} (Q : Lib06 G.K) (hj : 14 ≤ j) (B : IsBoard H s bs) (h1 : H e1 = some (.list (vi xs1))) (h2 : H e2 = some (.list (vi xs2))) (h3 : H e3 = some (.list (vi xs3))) (h4 : H e4 = some (.list (vi xs4)))
    (t1 : Tells bs xs1) (t2 : Tells bs xs2) (w1 : Rests xs3 bs) (w2 : ¬ crt xs3 bs < room bs) (w3 : xs3.length ≤ 1000) (nr : ¬ Rests xs4 bs) (nl : xs4.length ≤ 1000) (h : ∀ H', Ext H H' → k (.bool true) H') : FnC G j a_law_refusals p_law_refusals [.ref s, .ref e1, .ref e2, .ref e3, .ref e4] H k x := by
  have L := Q.lib
  unfold FnC p_law_refusals a_law_refusals
  refine ⟨rfl, lc (ev_const _ _ ⟨0, 2, 1, rfl, by decide, by decide, fun i m' H' => m' "_law_board" = some (.ref s) ∧ m' "_law_left" = some (.ref e1) ∧ m' "_law_right" = some (.ref e2) ∧ m' "_law_wrong" = some (.ref e3) ∧ m' "_law_none_here" = some (.ref e4) ∧ Ext H H', ⟨rfl, rfl, rfl, rfl, rfl, Ext.refl⟩, ?_, fun m' H' q => s_return ev_const (h H' q.2.2.2.2.2)⟩)⟩
  rintro i m' H' hi ⟨m1, m2, m3, m4, m5, E⟩
  generalize (0 : Int) + i * 1 = kd
  have n0 : (m'.set "_law_kind" (.int kd)) "_law_kind" = some (.int kd) := set_at
  have n1 := (set_ne (v := .int kd) (show ("_law_board" : Str) ≠ "_law_kind" by decide)).trans m1
  have n2 := (set_ne (v := .int kd) (show ("_law_left" : Str) ≠ "_law_kind" by decide)).trans m2
  have n3 := (set_ne (v := .int kd) (show ("_law_right" : Str) ≠ "_law_kind" by decide)).trans m3
  have n4 := (set_ne (v := .int kd) (show ("_law_wrong" : Str) ≠ "_law_kind" by decide)).trans m4
  have n5 := (set_ne (v := .int kd) (show ("_law_none_here" : Str) ≠ "_law_kind" by decide)).trans m5
  generalize m'.set "_law_kind" (.int kd) = m0 at n0 n1 n2 n3 n4 n5 ⊢
  refine s_assign ?_
  rw [w_list]
  refine lc (call4 Q.word (by omega) (ev_name n1) (ev_name n0) (ev_name n4) (ev_name n3) rfl (c_word_no (w := "no number") Q (by omega) (B.ext E) (E _ _ h3) w3 (E _ _ h2) t2.len (.inr (.inl ⟨w1, w2, rfl⟩)) fun H1 E1 => ?_))
  have E1' := E.trans E1
  refine lc (call4 Q.word (by omega) (ev_name n1) (ev_name n0) (ev_name n3) (ev_name n4) rfl (c_word_no (w := "no number") Q (by omega) (B.ext E1') (E1' _ _ h2) t2.len (E1' _ _ h3) w3 (.inr (.inr ⟨t2.rests, t2.lt, .inr ⟨w1, w2, rfl⟩⟩)) fun H2 E2 => ⟨by simp, fun c1 f1 => ?_⟩))
  have E2' := E1'.trans (E2.trans (Ext.new (o := .list [.str "no number", .str "no number"]) f1))
  have g1 := upd_at (H := H2) (a := c1) (o := .list [.str "no number", .str "no number"])
  change wpS G j false _ _ (H2.upd c1 (.list [.str "no number", .str "no number"])) _ _ _
  generalize H2.upd c1 (.list [.str "no number", .str "no number"]) = H3 at E2' g1 ⊢
  have u : ∀ {v : V} {y : Str} {w : V}, y ≠ "_law_words" → m0 y = some w → (m0.set "_law_words" v) y = some w := fun hy hm => (set_ne hy).trans hm
  refine s_assign (bin_ (ev_name set_at _ _ ?_))
  rw [w_list]
  refine lc (call4 Q.word (by omega) (ev_name (u (by decide) n1)) (ev_name (u (by decide) n0)) (ev_name (u (by decide) n4)) (ev_name (u (by decide) n5)) rfl (c_word_no (w := "no number") Q (by omega) (B.ext E2') (E2' _ _ h3) w3 (E2' _ _ h4) nl (.inr (.inl ⟨w1, w2, rfl⟩)) fun H4 E4 => ⟨by simp, fun c2 f2 => ?_⟩))
  have E4' := E2'.trans E4
  have N2 := Ext.new (o := .list [.str "no number"]) f2
  refine cat_at (N2 _ _ (E4 _ _ g1)) upd_at (by simp) fun c3 f3 => ?_
  have N3 := Ext.new (o := .list ([.str "no number", .str "no number"] ++ [.str "no number"])) f3
  rw [set_set]
  refine s_ite ?_
  rw [w_cmp]
  refine ev_name set_at _ _ ?_
  rw [w_list]
  refine lc (ev_const _ _ (lc (ev_const _ _ (lc (ev_const _ _ ⟨by simp, fun c4 f4 => ?_⟩)))))
  have N4 := Ext.new (o := .list [.str "no number", .str "no number", .str "no number"]) f4
  refine strs_ne (ws := ["no number", "no number", "no number"]) (by decide +kernel) (N4 _ _ upd_at) upd_at ⟨fun z => (by cases z), fun _ => s_nil ?_⟩
  have E5 := E4'.trans (N2.trans (N3.trans N4))
  generalize AHeap.upd (AHeap.upd (AHeap.upd H4 c2 (.list [.str "no number"])) c3 (.list ([.str "no number", .str "no number"] ++ [.str "no number"]))) c4 (.list [.str "no number", .str "no number", .str "no number"]) = H5 at E5 ⊢
  refine s_assign ?_
  rw [w_list]
  refine lc (call4 Q.word (by omega) (ev_name (u (by decide) n1)) (ev_name (u (by decide) n0)) (ev_name (u (by decide) n5)) (ev_name (u (by decide) n4)) rfl (c_word_no (w := "no row") Q (by omega) (B.ext E5) (E5 _ _ h4) nl (E5 _ _ h3) w3 (.inl ⟨nr, rfl⟩) fun H6 E6 => ?_))
  have E6' := E5.trans E6
  refine lc (call4 Q.word (by omega) (ev_name (u (by decide) n1)) (ev_name (u (by decide) n0)) (ev_name (u (by decide) n2)) (ev_name (u (by decide) n5)) rfl (c_word_no (w := "no row") Q (by omega) (B.ext E6') (E6' _ _ h1) t1.len (E6' _ _ h4) nl (.inr (.inr ⟨t1.rests, t1.lt, .inl ⟨nr, rfl⟩⟩)) fun H7 E7 => ⟨by simp, fun c5 f5 => ?_⟩))
  have E7' := E6'.trans E7
  have N5 := Ext.new (o := .list [.str "no row", .str "no row"]) f5
  rw [set_set]
  refine s_ite ?_
  rw [w_cmp]
  refine ev_name set_at _ _ ?_
  rw [w_list]
  refine lc (ev_const _ _ (lc (ev_const _ _ ⟨by simp, fun c6 f6 => ?_⟩)))
  have N6 := Ext.new (o := .list [.str "no row", .str "no row"]) f6
  exact strs_ne (ws := ["no row", "no row"]) (by decide +kernel) (N6 _ _ upd_at) upd_at ⟨fun z => (by cases z), fun _ => s_nil (s_nil ⟨u (by decide) n1, u (by decide) n2, u (by decide) n3, u (by decide) n4, u (by decide) n5, E7'.trans (N5.trans N6)⟩)⟩
theorem c_itself (Q : Lib06 G.K) (hj : 14 ≤ j) (B : IsBoard H s bs) (hb : H b = some (.list (vi bs))) (n0 : 0 ≤ N) (n1 : N < room bs) (h : ∀ H', Ext H H' → k (.bool true) H') : FnC G j a_law_itself p_law_itself [.ref s, .ref b, .int (room bs), .int N] H k x := by
  have L := Q.lib
  have g := B.good
  have RN := rowIs g n0 n1
  have rp := room_pos g
  unfold FnC p_law_itself a_law_itself
  refine s_assign (comp_row N (ev_name rfl) hb (fun b hb => ev_mod (ev_name ((set_ne (by decide)).trans (only_at (by decide)))) (ev_name set_at) (g.pos b hb)) fun cr H1 E1 f1 hr => ?_)
  have fin : ∀ {m' : AMap} {H' : AHeap} {kn : AMap → AHeap → Prop} {xs : XS}, Ext H1 H' → m' "_law_board" = some (.ref s) → m' "_law_bases_here" = some (.ref b) → m' "_law_one" = some (.int N) → m' "_law_row_here" = some (.ref cr) → wpS G j false (tailP (tailP (tailP p_law_itself))) m' H' kn k xs := fun {m' H' kn xs} E m1 m2 m3 m4 => by
    unfold p_law_itself tailP
    dsimp only
    have EE := E1.trans E
    refine s_assign (comp_row 0 (ev_name m2) (EE _ _ hb) (fun b hb => by rw [Int.zero_emod]; exact ev_const) fun cn H2 E2 f2 hn => ?_)
    have E2' := EE.trans E2
    have m1 := (set_ne (v := .ref cn) (show ("_law_board" : Str) ≠ "_law_nought" by decide)).trans m1
    have m2 := (set_ne (v := .ref cn) (show ("_law_bases_here" : Str) ≠ "_law_nought" by decide)).trans m2
    have m3 := (set_ne (v := .ref cn) (show ("_law_one" : Str) ≠ "_law_nought" by decide)).trans m3
    have m4 := (set_ne (v := .ref cn) (show ("_law_row_here" : Str) ≠ "_law_nought" by decide)).trans m4
    have hr2 := E2 _ _ (E _ _ hr)
    have e0 : opI 1 N N = 0 := by unfold opI; rw [if_neg (by decide)]; omega
    refine s_ret ?_
    rw [w_and]
    refine wpE_call Q.row (by omega) (lc (call4 Q.word (by omega) (ev_name m1) ev_const (ev_name m4) (ev_name m4) rfl (c_word_ok Q (by omega) (B.ext E2') RN RN hr2 hr2 (fun _ c H3 E3 fc hc => lc (ev_name set_at _ _ ⟨rfl, c_row hc (E3 _ _ hn) ?_⟩)) fun z => absurd (by rw [e0]; exact ⟨Int.le_refl _, rp⟩) z)))
    rw [e0]
    refine ⟨fun _ => ?_, fun z => (by simp at z)⟩
    rw [w_cmp]
    have E3' := E2'.trans E3
    refine ev_name m4 _ _ (comp_row N (ev_name m2) (E3' _ _ hb) (fun b hb => ev_mod (ev_name ((set_ne (by decide)).trans ((only_at (by decide)).trans m3))) (ev_name set_at) (g.pos b hb)) fun cz H4 E4 fz hz => ⟨_, _, adata_vi (E4 _ _ (E3 _ _ hr2)), adata_vi hz, ?_⟩)
    rw [eqv_ints, decide_eq_true rfl]
    exact h H4 (E3'.trans E4)
  refine s_assign (call4 Q.word (by omega) (ev_name rfl) ev_const (ev_name set_at) (ev_name set_at) rfl (c_word_ok Q (by omega) (B.ext E1) RN RN hr hr (fun hin c H2 E2 fc hc => ?_) fun hout H2 E2 => ?_))
  · have e2 : opI 0 N N = 2 * N := by unfold opI; rw [if_pos rfl]; omega
    rw [e2] at hc hin
    refine s_ite ?_
    rw [w_and]
    refine ev_lt (ev_mul ev_const (ev_name rfl) (.inl (sm_small (by decide)))) (ev_name rfl) _ _ ⟨fun _ => ?_, fun z => absurd hin.2 (of_decide_eq_false z)⟩
    rw [w_not]
    refine wpE_call Q.row (by omega) (lc (ev_name set_at _ _ (lc (comp_row (2 * N) (ev_name rfl) (E2 _ _ (E1 _ _ hb)) (fun b hb => ev_mod (ev_mul ev_const (ev_name ((set_ne (by decide)).trans (only_at (by decide)))) (.inl (sm_small (by decide)))) (ev_name set_at) (g.pos b hb)) fun cz H3 E3 fz hz => ⟨rfl, c_row (E3 _ _ hc) hz ⟨fun z => (by simp at z), fun _ => s_nil (fin (E2.trans E3) rfl rfl rfl rfl)⟩⟩))))
  · have e2 : opI 0 N N = 2 * N := by unfold opI; rw [if_pos rfl]; omega
    rw [e2] at hout
    refine s_ite ?_
    rw [w_and]
    exact ev_lt (ev_mul ev_const (ev_name rfl) (.inl (sm_small (by decide)))) (ev_name rfl) _ _ ⟨fun z => absurd ⟨by omega, of_decide_eq_true z⟩ hout, fun z => ⟨fun z' => (by rw [z] at z'; cases z'), fun _ => s_nil (fin E2 rfl rfl rfl rfl)⟩⟩
noncomputable def lkNames : List Str := ["_law_script", "_law_bases_here", "_law_room_here", "_law_board", "_law_one", "_law_other", "_law_left", "_law_right", "_law_handed", "_law_way"]
/-- the names that the end of the law asks -/
structure Lk (m : AMap) (l cb : Addr) (R : Int) (s : Addr) (N O : Int) (cl cr ch : Addr) (W : Int) : Prop where
  script : m "_law_script" = some (.ref l)
  bases : m "_law_bases_here" = some (.ref cb)
  room : m "_law_room_here" = some (.int R)
  board : m "_law_board" = some (.ref s)
  one : m "_law_one" = some (.int N)
  other : m "_law_other" = some (.int O)
  left : m "_law_left" = some (.ref cl)
  right : m "_law_right" = some (.ref cr)
  handed : m "_law_handed" = some (.ref ch)
  way : m "_law_way" = some (.int W)
theorem Lk.set {cl cr ch : Addr} {W : Int} {y : Str} {v : V} (h : Lk m l cb R s N O cl cr ch W) (hy : lkNames.all fun z => decide (z ≠ y)) : Lk (m.set y v) l cb R s N O cl cr ch W := by
  have key : ∀ z ∈ lkNames, (m.set y v) z = m z := fun z hz => set_ne (of_decide_eq_true (List.all_eq_true.mp hy z hz))
  unfold lkNames at key
  exact ⟨(key _ (by simp)).trans h.script, (key _ (by simp)).trans h.bases, (key _ (by simp)).trans h.room, (key _ (by simp)).trans h.board, (key _ (by simp)).trans h.one, (key _ (by simp)).trans h.other, (key _ (by simp)).trans h.left, (key _ (by simp)).trans h.right, (key _ (by simp)).trans h.handed, (key _ (by simp)).trans h.way⟩
theorem s_cut {a lst : P} {kr : V → AHeap → Prop} {R : AMap → AHeap → Prop} (h2 : ∀ m' H', R m' H' → wpS G n hd lst m' H' kn kr xs) (h : (∀ m' H', R m' H' → wpS G n hd lst m' H' kn kr xs) → wpS G n hd (.cons a lst) m H kn kr xs) : wpS G n hd (.cons a lst) m H kn kr xs := h h2
/-- what the law holds in its heap -/
structure Hp (H : AHeap) (l : Addr) (ns : List Int) (cb : Addr) (bs : List Int) (s f cl cr ch c1 c2 : Addr) (N O : Int) : Prop where
  st : St H l ns cb bs s f
  left : H cl = some (.list (vi (rowOf N bs)))
  right : H cr = some (.list (vi (rowOf O bs)))
  handed : H ch = some (.list [.ref c1, .ref c2])
  one : H c1 = some (.list (vi (rowOf N bs)))
  other : H c2 = some (.list (vi (rowOf O bs)))
theorem Hp.ext {H' : AHeap} {f cl cr ch c1 c2 : Addr} (h : Hp H l ns cb bs s f cl cr ch c1 c2 N O) (E : Ext H H') : Hp H' l ns cb bs s f cl cr ch c1 c2 N O := ⟨h.st.ext E, E _ _ h.left, E _ _ h.right, E _ _ h.handed, E _ _ h.one, E _ _ h.other⟩
noncomputable def bodyT : P → P
  | .cons (.forT _ _ _ b) _ => b
  | p => p
noncomputable def t10 (p : P) : P := tailP (tailP (tailP (tailP (tailP (tailP (tailP (tailP (tailP (tailP p)))))))))
/-- a turn of the loop -/
theorem turn06 {f cl cr ch c1 c2 : Addr} {W : Int} (Q : Lib06 G.K) (hj : 20 ≤ j) (P : Hp H l ns cb bs s f cl cr ch c1 c2 N O) (RN : RowIs bs N) (RO : RowIs bs O) (K : Lk m l cb (room bs) s N O cl cr ch W) (mk : m "_law_kind" = some (.int kd)) (md : m "_law_due" = some (.int (opI kd N O)))
    (h : ∀ m' H', Lk m' l cb (room bs) s N O cl cr ch W → Ext H H' → kn m' H') : wpS G j false (bodyT (t10 p_law)) m H kn (fun v _ => v = .bool true) xs := by
  have L := Q.lib
  have g := P.st.good
  have hlen := g.len
  have so1 : PyData.strOk "out of room" = true := by decide +kernel
  unfold t10 p_law tailP bodyT
  dsimp only
  have fin : ∀ {m' : AMap} {H' : AHeap}, Lk m' l cb (room bs) s N O cl cr ch W → Ext H H' → wpS G j false (.cons (.ite (.cmp .ne (.name "_law_handed") (.list (.cons (.name "_law_left") (.cons (.name "_law_right") .nil)))) (.cons (.ret (.const (.bool false))) .nil) .nil) .nil) m' H' kn (fun v _ => v = .bool true) xs := fun {m' H'} K E => by
    have P' := P.ext E
    exact s_ite (same2 P'.handed P'.one P'.other P'.left P'.right (ev_name K.handed) (ev_name K.left) (ev_name K.right) fun H1 E1 => ⟨fun z => (by cases z), fun _ => s_nil (s_nil (h _ _ K (E.trans E1)))⟩)
  refine s_assign (call4 Q.word (by omega) (ev_name K.board) (ev_name mk) (ev_item (ev_name K.handed) ev_const P.handed rfl) (ev_item (ev_name K.handed) ev_const P.handed rfl) rfl (c_word_ok Q (by omega) P.st.is RN RO P.one P.other (fun hin c H1 E1 fc hc => ?_) fun hout H1 E1 => ?_))
  · have P1 := P.ext E1
    have K1 := K.set (y := "_law_found") (v := .ref c) (by decide)
    have mk1 := (set_ne (v := .ref c) (show ("_law_kind" : Str) ≠ "_law_found" by decide)).trans mk
    have md1 := (set_ne (v := .ref c) (show ("_law_due" : Str) ≠ "_law_found" by decide)).trans md
    have mf : (m.set "_law_found" (.ref c)) "_law_found" = some (.ref c) := set_at
    generalize m.set "_law_found" (.ref c) = m1 at K1 mk1 md1 mf ⊢
    have hin' := hin
    unfold InR at hin'
    refine s_if (ev_or (ev_lt (ev_name md1) ev_const) fun _ => ev_ge (ev_name md1) (ev_name K1.room)) (fun z => ?_) fun _ => ?_
    · exfalso; simp at z; omega
    refine s_ite ?_
    rw [w_not]
    refine wpE_call Q.row (by omega) (lc (ev_name mf _ _ (lc (comp_row (opI kd N O) (ev_name K1.bases) P1.st.base (fun b hb => ev_mod (ev_name ((set_ne (by decide)).trans ((only_at (by decide)).trans md1))) (ev_name set_at) (g.pos b hb)) fun cz H2 E2 fz hz => ⟨rfl, c_row (E2 _ _ hc) hz ⟨fun z => (by simp at z), fun _ => ?_⟩⟩))))
    have hc2 := E2 _ _ hc
    refine s_expr (app1 (ev_name mf) ev_const hc2 (by rw [vi_length, rowOf_length]; omega) ?_)
    have E3 : Ext H (H2.upd c (.list (vi (rowOf (opI kd N O) bs) ++ [.int 0]))) := (E1.trans E2).upd fc
    generalize H2.upd c (.list (vi (rowOf (opI kd N O) bs) ++ [.int 0])) = H3 at E3 ⊢
    have P3 := P.ext E3
    refine s_ite ?_
    rw [w_not]
    refine wpE_call Q.row (by omega) (lc (call4 Q.word (by omega) (ev_name K1.board) (ev_name mk1) (ev_item (ev_name K1.handed) ev_const P3.handed rfl) (ev_item (ev_name K1.handed) ev_const P3.handed rfl) rfl (c_word_ok Q (by omega) P3.st.is RN RO P3.one P3.other (fun _ c' H4 E4 fc' hc' => lc (comp_row (opI kd N O) (ev_name K1.bases) (E4 _ _ P3.st.base) (fun b hb => ev_mod (ev_name ((set_ne (by decide)).trans ((only_at (by decide)).trans md1))) (ev_name set_at) (g.pos b hb)) fun cy H5 E5 fy hy => ⟨rfl, c_row (E5 _ _ hc') hy ⟨fun z => (by simp at z), fun _ => s_nil (s_nil (s_nil (fin K1 (E3.trans (E4.trans E5)))))⟩⟩)) fun z => absurd hin z)))
  · have K1 := K.set (y := "_law_found") (v := .str "out of room") (by decide)
    have md1 := (set_ne (v := .str "out of room") (show ("_law_due" : Str) ≠ "_law_found" by decide)).trans md
    have mf : (m.set "_law_found" (.str "out of room")) "_law_found" = some (.str "out of room") := set_at
    generalize m.set "_law_found" (.str "out of room") = m1 at K1 md1 mf ⊢
    unfold InR at hout
    refine s_if (ev_or (ev_lt (ev_name md1) ev_const) fun _ => ev_ge (ev_name md1) (ev_name K1.room)) (fun _ => ?_) fun z => ?_
    · exact s_if (word_ne so1 so1 (ev_name mf) ev_const) (fun z => absurd z (by decide)) fun _ => s_nil (s_nil (fin K1 E1))
    · exfalso; simp at z; omega
theorem pick4 {a1 a2 a3 a4 e : P} {v1 v2 v3 v4 : Int} {i : Int} (h1 : Ev G n hd m H a1 (.int v1)) (h2 : Ev G n hd m H a2 (.int v2)) (h3 : Ev G n hd m H a3 (.int v3)) (h4 : Ev G n hd m H a4 (.int v4)) (hi : ∀ H', Ext H H' → Ev G n hd m H' e (.int (i % 4)))
    (h : ∀ v H', Ext H H' → k (.int v) H') : wpE G n hd (.sub (.list (.cons a1 (.cons a2 (.cons a3 (.cons a4 .nil))))) e) m H k x := by
  refine (h1 _ _ (h2 _ _ (h3 _ _ (h4 _ _ ⟨by simp, fun d fd => ?_⟩))) : wpE G n hd (.list (.cons a1 (.cons a2 (.cons a3 (.cons a4 .nil))))) m H (fun u H1 => wpE G n hd e m H1 (fun v H2 => wpSub u v H2 fun r => k r H2) x) x)
  refine hi _ (Ext.new fd) _ _ ?_
  have : i % 4 = 0 ∨ i % 4 = 1 ∨ i % 4 = 2 ∨ i % 4 = 3 := by omega
  rcases this with e | e | e | e <;> rw [e]
  · exact sub_at upd_at rfl (h _ _ (Ext.new fd))
  · exact sub_at upd_at rfl (h _ _ (Ext.new fd))
  · exact sub_at upd_at rfl (h _ _ (Ext.new fd))
  · exact sub_at upd_at rfl (h _ _ (Ext.new fd))
theorem tup2 {v w : V} (ha : Ev G n hd m H a v) (hb : Ev G n hd m H a' w) (h : ∀ t, H t = none → k (.ref t) (H.upd t (.tup [v, w]))) : wpE G n hd (.tup (.cons a (.cons a' .nil))) m H k x := ha _ _ (hb _ _ ⟨by simp, h⟩)
theorem tail06 {f cl cr ch c1 c2 : Addr} {W : Int} (Q : Lib06 G.K) (hj : 20 ≤ j) (P : Hp H l ns cb bs s f cl cr ch c1 c2 N O) (n0 : 0 ≤ N) (n1 : N < room bs) (o0 : 0 ≤ O) (o1 : O < room bs) (K : Lk m l cb (room bs) s N O cl cr ch W) : wpS G j false (tailP (t10 p_law)) m H kn (fun v _ => v = .bool true) xs := by
  have L := Q.lib
  have g := P.st.good
  have RN := rowIs g n0 n1
  have RO := rowIs g o0 o1
  have hlen := g.len
  have ln : (vi (rowOf N bs)).length = bs.length := by rw [vi_length, rowOf_length]
  unfold t10 p_law tailP
  dsimp only
  refine s_cut (R := fun m' H' => m' = m ∧ Ext H H') ?_ fun tail => ?_
  rotate_left
  · refine s_ite ?_
    rw [w_and]
    refine ev_ge (ev_add (ev_name K.one) (ev_name K.other)) (ev_name K.room) _ _ ⟨fun z => ?_, fun z => ⟨fun z' => (by rw [z] at z'; cases z'), fun _ => s_nil (tail _ _ ⟨rfl, Ext.refl⟩)⟩⟩
    have hge : room bs ≤ N + O := of_decide_eq_true z
    rw [w_not]
    exact call3 Q.any (by omega) (ev_name K.board) (ev_name K.left) (ev_name K.right) rfl (c_any Q (by omega) P.st.is RN RO P.left P.right (fun z => by unfold InR at z; omega) fun H1 E1 => ⟨fun z => (by cases z), fun _ => s_nil (tail _ _ ⟨rfl, E1⟩)⟩)
  rintro m' H2 ⟨e, E2⟩
  rw [e]
  clear e
  have P2 := P.ext E2
  have S2 := P2.st
  obtain ⟨i, hi, hil, t, ht, tlo, thi⟩ := place_of (i := ns.getD 7 0) g
  refine s_set (ev_mod (ev_cell (i := 7) L (by omega) K.script S2.script) (ev_len (ev_name K.bases) S2.base) (vi_pos g)) ?_
  rw [hi]
  have K4 := K.set (y := "_law_at") (v := .int i) (by decide)
  have ka : (m.set "_law_at" (.int i)) "_law_at" = some (.int i) := set_at
  generalize m.set "_law_at" (.int i) = m4 at K4 ka ⊢
  have hrt : (rowOf N bs)[i]? = some (N % t) := rowOf_get ht
  have q0 := Int.emod_nonneg N (b := t) (by omega)
  have q1 := Int.emod_lt_of_pos N (b := t) (by omega)
  have d0 := Int.emod_nonneg (W / 12) (b := 2) (by omega)
  have d1 := Int.emod_lt_of_pos (W / 12) (b := 2) (by omega)
  obtain ⟨w0, w1, w2⟩ := wrong_at (t := 1 + W / 12 % 2) q0 q1 (by omega) (by omega)
  rw [← Int.add_assoc] at w0 w1 w2
  refine s_set (v := .int ((N % t + 1 + W / 12 % 2) % t)) (ev_mod (ev_add (ev_add (ev_item (ev_name K4.left) (ev_name ka) P2.left (itemAt_pos (vi_get hrt))) ev_const) (ev_mod (ev_fdiv (j := 12) (ev_name K4.way) ev_const (by decide) (by decide)) ev_const (by decide))) (ev_item (ev_name K4.bases) (ev_name ka) S2.base (itemAt_pos (vi_get ht))) (by omega)) ?_
  generalize (N % t + 1 + W / 12 % 2) % t = w at w0 w1 w2 ⊢
  have K5 := K4.set (y := "_law_new") (v := .int w) (by decide)
  have ka := (set_ne (m := m4) (v := .int w) (show ("_law_at" : Str) ≠ "_law_new" by decide)).trans ka
  have kn' : (m4.set "_law_new" (.int w)) "_law_new" = some (.int w) := set_at
  generalize m4.set "_law_new" (.int w) = m5 at K5 ka kn' ⊢
  refine s_assign (put1 (i := i) (v := .int w) (fun H' E => ev_name K5.left) (fun H' E => ev_name ka) (fun H' E => ev_add (ev_name ka) ev_const) (fun H' E => ev_name kn') P2.left (by omega) (by omega) fun cw H3 E3 fw hw => ?_)
  rw [vi_set] at hw
  have W1 := wrong_row g n0 n1 ht w1 w2 w0
  have F1 := far_row g n0 n1
  have S3 := S2.ext E3
  have Kw : ∀ v, Lk (m5.set "_law_wrong" v) l cb (room bs) s N O cl cr ch W := fun v => K5.set (by decide)
  refine s_ifset (Q := fun v H' => ∃ c ws, v = .ref c ∧ H' c = some (.list (vi ws)) ∧ Rests ws bs ∧ ¬ crt ws bs < room bs ∧ ws.length ≤ 1000) (ev_eq (ev_mod (ev_fdiv (j := 72) (ev_name (Kw _).way) ev_const (by decide) (by decide)) ev_const (by decide)) ev_const) (fun _ k x hk => comp_row (N + room bs) (ev_name (Kw _).bases) S3.base (fun b hb => ev_mod (ev_add (ev_name ((set_ne (by decide)).trans ((only_at (by decide)).trans (Kw _).one))) (ev_name ((set_ne (by decide)).trans ((only_at (by decide)).trans (Kw _).room)))) (ev_name set_at) (g.pos b hb)) fun cf HF EF ff hf => hk _ _ EF ⟨cf, _, rfl, hf, F1.1, F1.2, by rw [rowOf_length]; omega⟩) (fun _ => ⟨cw, _, rfl, hw, W1.1, W1.2, by rw [W1.1.length]; omega⟩) ?_
  rintro _ H4 E4 ⟨cx, ws, rfl, hx, X1, X2, lw⟩
  have S4 := S3.ext E4
  have E24 := E3.trans E4
  refine s_assign (call3 Q.none (by omega) (ev_name (Kw _).right) (ev_name (Kw _).bases) (ev_cell (i := 8) L (by omega) (Kw _).script S4.script) rfl (c_law_none (E24 _ _ P2.right) S4.base RO.rests g fun cn us H5 E5 fn hn nr lu => ?_))
  have K6 := (Kw (.ref cx)).set (y := "_law_none_here") (v := .ref cn) (by decide)
  have E25 := E24.trans E5
  have P5 := P2.ext E25
  refine s_ret ?_
  rw [w_and]
  refine call4 Q.itself (by omega) (ev_name K6.board) (ev_name K6.bases) (ev_name K6.room) (ev_name K6.one) rfl (c_itself Q (by omega) P5.st.is P5.st.base n0 n1 fun H6 E6 => ⟨fun _ => ?_, fun z => (by cases z)⟩)
  have P6 := P5.ext E6
  refine wpE_call Q.refusals (by omega) (lc (ev_name K6.board _ _ (lc (ev_name K6.left _ _ (lc (ev_name K6.right _ _ (lc (ev_name ((set_ne (by decide)).trans set_at) _ _ (lc (ev_name set_at _ _ ⟨rfl, c_refusals Q (by omega) P6.st.is P6.left P6.right (E6 _ _ (E5 _ _ hx)) (E6 _ _ hn) RN.tells RO.tells X1 X2 lw nr (by omega) fun H7 E7 => rfl⟩))))))))))
theorem main06 (Q : Lib06 G.K) (hj : 20 ≤ j) (hs : H l = some (.script ns)) : FnC G j a_law p_law [.ref l] H (fun v _ => v = .bool true) x := by
  have L := Q.lib
  unfold FnC p_law a_law
  refine s_assign (call2 L.bases (by omega) (ev_cell (i := 0) L (by omega) rfl hs) (ev_cell (i := 1) L (by omega) rfl hs) rfl (c_bases fun cb bs H1 E1 f1 g hb => ?_))
  refine s_assign (call1 Q.room (by omega) (ev_name rfl) rfl (c_law_room g hb fun H2 E2 => ?_))
  refine s_assign (make1 L (by omega) (ev_name rfl) (E2 _ _ hb) g fun s f H3 E3 ff hB hF => ?_)
  have S3 : St H3 l ns cb bs s f := ⟨E3 _ _ (E2 _ _ (E1 _ _ hs)), E3 _ _ (E2 _ _ hb), hB, hF, g⟩
  refine s_set (ev_cell (i := 2) L (by omega) rfl S3.script) ?_
  refine s_assign (call3 Q.number (by omega) (ev_cell (i := 3) L (by omega) rfl S3.script) (ev_cell (i := 4) L (by omega) rfl S3.script) (ev_name rfl) rfl (c_law_number (room_ge3 g) fun N H4 n0 n1 E4 => ?_))
  have S4 := S3.ext E4
  refine s_assign (call3 Q.number (by omega) (ev_cell (i := 5) L (by omega) rfl S4.script) (ev_cell (i := 6) L (by omega) rfl S4.script) (ev_name rfl) rfl (c_law_number (room_ge3 g) fun O' H5 o0' o1' E5 => ?_))
  have S5 := S4.ext E5
  have rp := room_pos g
  refine s_ifset (Q := fun v _ => ∃ O : Int, v = .int O ∧ 0 ≤ O ∧ O < room bs) (ev_eq (ev_mod (ev_name rfl) ev_const (by decide)) ev_const) (fun _ k x hk => bin_ (pick4 (i := ns.getD 2 0 / 3) (ev_minus (ev_name rfl) (ev_name rfl)) (ev_minus (ev_minus (ev_name rfl) (ev_name rfl)) ev_const) (ev_name rfl) (ev_add (ev_name rfl) ev_const) (fun H' E => ev_mod (ev_fdiv (j := 3) (ev_name rfl) ev_const (by decide) (by decide)) ev_const (by decide)) fun v H' E => ev_name (v := .int (room bs)) rfl _ _ ⟨rp, hk _ _ E ⟨_, rfl, Int.emod_nonneg _ (by omega), Int.emod_lt_of_pos _ rp⟩⟩)) (fun _ => ⟨_, rfl, o0', o1'⟩) ?_
  rintro _ H6 E6 ⟨O, rfl, o0, o1⟩
  have S6 := S5.ext E6
  have RN := rowIs g n0 n1
  have RO := rowIs g o0 o1
  refine s_assign (comp_row N (ev_name rfl) S6.base (fun b hb => ev_mod (ev_name ((set_ne (by decide)).trans (only_at (by decide)))) (ev_name set_at) (g.pos b hb)) fun cl H7 E7 fcl hcl => ?_)
  have S7 := S6.ext E7
  refine s_assign (comp_row O (ev_name rfl) S7.base (fun b hb => ev_mod (ev_name ((set_ne (by decide)).trans (only_at (by decide)))) (ev_name set_at) (g.pos b hb)) fun cr H8 E8 fcr hcr => ?_)
  have S8 := S7.ext E8
  have hcl8 := E8 _ _ hcl
  refine s_assign ?_
  rw [w_list]
  refine lc (copy1 (ev_name rfl) hcl8 fun c1 H9 E9 fc1 h1 => ?_)
  refine lc (copy1 (ev_name rfl) (E9 _ _ hcr) fun c2 HA EA fc2 h2 => ⟨by simp, fun ch hch => ?_⟩)
  have Eh := Ext.new (o := .list [.ref c1, .ref c2]) hch
  have E8B := E9.trans (EA.trans Eh)
  have PB : Hp (HA.upd ch (.list [.ref c1, .ref c2])) l ns cb bs s f cl cr ch c1 c2 N O := ⟨S8.ext E8B, E8B _ _ hcl8, E8B _ _ hcr, upd_at, Eh _ _ (EA _ _ h1), Eh _ _ h2⟩
  change wpS G j false _ _ (HA.upd ch (.list [.ref c1, .ref c2])) _ _ _
  generalize HA.upd ch (.list [.ref c1, .ref c2]) = HB at PB ⊢
  refine ⟨rfl, ?_⟩
  rw [w_list]
  refine lc (tup2 ev_const (ev_add (ev_name rfl) (ev_name rfl)) fun t1 f1 => ?_)
  have N1 := Ext.new (o := .tup [.int 0, .int (N + O)]) f1
  refine lc (tup2 ev_const (ev_minus (ev_name rfl) (ev_name rfl)) fun t2 f2 => ⟨by simp, fun ct ft => ?_⟩)
  have N2 := Ext.new (o := .tup [.int 1, .int (N - O)]) f2
  have N3 := Ext.new (o := .list [.ref t1, .ref t2]) ft
  have g1 := N3 _ _ (N2 _ _ (upd_at (H := HB) (a := t1) (o := .tup [.int 0, .int (N + O)])))
  have g2 := N3 _ _ (upd_at (H := HB.upd t1 (.tup [.int 0, .int (N + O)])) (a := t2) (o := .tup [.int 1, .int (N - O)]))
  have g3 := upd_at (H := (HB.upd t1 (.tup [.int 0, .int (N + O)])).upd t2 (.tup [.int 1, .int (N - O)])) (a := ct) (o := .list [.ref t1, .ref t2])
  have PC := PB.ext (N1.trans (N2.trans N3))
  generalize AHeap.upd ((HB.upd t1 (.tup [.int 0, .int (N + O)])).upd t2 (.tup [.int 1, .int (N - O)])) ct (.list [.ref t1, .ref t2]) = HC at g1 g2 g3 PC ⊢
  refine ⟨ct, [.ref t1, .ref t2], rfl, g3, fun _ m' H' => Lk m' l cb (room bs) s N O cl cr ch (ns.getD 2 0) ∧ Ext HC H', ⟨⟨rfl, rfl, rfl, rfl, rfl, rfl, rfl, rfl, rfl, rfl⟩, Ext.refl⟩, ?_, fun m' H' ⟨K, E⟩ => tail06 Q hj (PC.ext E) n0 n1 o0 o1 K⟩
  rintro i v m' H' hv ⟨K, E⟩
  refine ⟨E _ _ g3, ?_⟩
  have hm : v ∈ [V.ref t1, .ref t2] := List.mem_of_getElem? hv
  simp only [List.mem_cons, List.not_mem_nil, or_false] at hm
  rcases hm with rfl | rfl
  · refine ⟨t1, .int 0, .int (N + O), rfl, E _ _ g1, turn06 (kd := 0) (m := (m'.set "_law_kind" (.int 0)).set "_law_due" (.int (N + O))) Q hj (PC.ext E) RN RO ((K.set (by decide)).set (by decide)) ((set_ne (by decide)).trans set_at) ?_ fun m2 H2 K2 E2 => ⟨⟨K2, E.trans E2⟩, E2 _ _ (E _ _ g3)⟩⟩
    rw [show opI 0 N O = N + O from if_pos rfl]; exact set_at
  · refine ⟨t2, .int 1, .int (N - O), rfl, E _ _ g2, turn06 (kd := 1) (m := (m'.set "_law_kind" (.int 1)).set "_law_due" (.int (N - O))) Q hj (PC.ext E) RN RO ((K.set (by decide)).set (by decide)) ((set_ne (by decide)).trans set_at) ?_ fun m2 H2 K2 E2 => ⟨⟨K2, E.trans E2⟩, E2 _ _ (E _ _ g3)⟩⟩
    rw [show opI 1 N O = N - O from if_neg (by decide)]; exact set_at
end
end Mine
end
section
open PySem PySem.W PySem.Calls PyProof.Rows
namespace Mine
theorem len1 {M : List Value → Prop} (h : ∀ a, M [a]) : ∀ vals : List Value, vals.length = 1 → M vals
  | [a], _ => h a
theorem len2 {M : List Value → Prop} (h : ∀ a b, M [a, b]) : ∀ vals : List Value, vals.length = 2 → M vals
  | [a, b], _ => h a b
theorem len3 {M : List Value → Prop} (h : ∀ a b c, M [a, b, c]) : ∀ vals : List Value, vals.length = 3 → M vals
  | [a, b, c], _ => h a b c
theorem len4 {M : List Value → Prop} (h : ∀ a b c d, M [a, b, c, d]) : ∀ vals : List Value, vals.length = 4 → M vals
  | [a, b, c, d], _ => h a b c d
theorem len5 {M : List Value → Prop} (h : ∀ a b c d e, M [a, b, c, d, e]) : ∀ vals : List Value, vals.length = 5 → M vals
  | [a, b, c, d, e], _ => h a b c d e
local macro_rules | `(tactic| walk_at "tr") => `(tactic| repeat' (first | rfl | refine Tr.assign rfl rfl ?_ | refine Tr.assignC rfl rfl ?_ | refine Tr.assignS rfl rfl ?_ | exact Or.inr ⟨_, _, _, _, rfl⟩ | constructor | (intro y h; cases h <;> rfl)))
local macro_rules | `(tactic| walk_at "args") => `(tactic| first | exact len1 fun _ => rfl | exact len2 fun _ _ => rfl | exact len3 fun _ _ _ => rfl | exact len4 fun _ _ _ _ => rfl | exact len5 fun _ _ _ _ _ => rfl)
local macro_rules | `(tactic| walk_at "fn") => `(tactic| exact ⟨_, _, ⟨_, _, _, _, rfl, rfl, rfl, rfl, rfl, rfl, rfl, rfl, rfl, rfl, by walk_at "args"⟩, by walk_at "tr", rfl⟩)
theorem lib (Q : Params) : Lib (hd.heap_1 Q) where
  common := ⟨_, rfl, rfl, by walk_at "fn"⟩
  turned := ⟨_, rfl, rfl, by walk_at "fn"⟩
  are_bases := ⟨_, rfl, rfl, by walk_at "fn"⟩
  product := ⟨_, rfl, rfl, by walk_at "fn"⟩
  whole_of := ⟨_, rfl, rfl, by walk_at "fn"⟩
  figures_of := ⟨_, rfl, rfl, by walk_at "fn"⟩
  init := ⟨_, _, rfl, rfl, rfl, rfl, rfl, rfl, by walk_at "fn"⟩
  room := ⟨_, rfl, by walk_at "fn"⟩
  rests := ⟨_, rfl, by walk_at "fn"⟩
  need_row := ⟨_, rfl, by walk_at "fn"⟩
  is_rest := ⟨_, rfl, by walk_at "fn"⟩
  figures := ⟨_, rfl, by walk_at "fn"⟩
  tells := ⟨_, rfl, by walk_at "fn"⟩
  number := ⟨_, rfl, by walk_at "fn"⟩
  cell_at := ⟨_, rfl, rfl, by walk_at "fn"⟩
  bases := ⟨_, rfl, rfl, by walk_at "fn"⟩
  excs := by kernel_rfl
  fewest := ⟨_, rfl⟩
  most := ⟨_, rfl⟩
  greatest := ⟨_, rfl⟩
theorem d_board (Q : Params) : boardOk (hd.heap_1 Q) = true := by rfl
theorem d_excs (Q : Params) : excsOk (hd.heap_1 Q) = true := by kernel_rfl
theorem d_bis (Q : Params) : (biNames.all fun f => nsIn (hd.heap_1 Q) mainGlobals f == some Option.none) = true := by kernel_rfl
theorem libN (Q : Params) : Lib06 (hd.heap_1 Q) where
  lib := lib Q
  row := ⟨_, rfl, rfl, by walk_at "fn"⟩
  room := ⟨_, rfl, rfl, by walk_at "fn"⟩
  number := ⟨_, rfl, rfl, by walk_at "fn"⟩
  added := ⟨_, rfl, rfl, by walk_at "fn"⟩
  taken := ⟨_, rfl, rfl, by walk_at "fn"⟩
  none := ⟨_, rfl, rfl, by walk_at "fn"⟩
  word := ⟨_, rfl, rfl, by walk_at "fn"⟩
  any := ⟨_, rfl, rfl, by walk_at "fn"⟩
  refusals := ⟨_, rfl, rfl, by walk_at "fn"⟩
  itself := ⟨_, rfl, rfl, by walk_at "fn"⟩
  law := ⟨_, rfl, rfl, by walk_at "fn"⟩
end Mine
end
set_option maxRecDepth 100000 in
set_option maxHeartbeats 8000000 in
theorem PySem.Challenge.cw_uf060018_06_holds : PySem.Challenge.rw_uf060018_06.Holds := by
  refine Mine.hd ?_
  k_fill
  intro w s₀ s₁ mg mb G Y fa o pm cd doc dV kV ho hd hcd hD hmg hg args vals as hpre hlay hrd hwl hlo
  have KX := kIn_of Y
  have hmg' : mg "law" = some (.ref fa) := hmg
  refine Ground.open G ?_
  intro T B D TE TW
  clear hd hcd hD D hmg
  wrow_args hpre hlay hrd hwl hlo
  rename_i ns _ _ _ _ _ _ _ l vs _ hL _ _ _ hI _ hlen _
  refine enter_call ?_
  obtain ⟨fa', e1, e2, e3⟩ := (Mine.libN w.params).law
  have e4 := mg_of KX T.g e1
  rw [hmg'] at e4
  cases e4
  let GG : Mine.Gd := ⟨PySem.Challenge.rw_uf060018_06.row.prog, w, Mine.hd.heap_1 w.params, s₁.heap, mg, mb, KX, T.g, T.b, T.nolimit, T.builtins, Mine.d_board _, Mine.d_excs _, Mine.d_bis _, fun x C e q => own_of_in KX (topRead_of T) e q⟩
  refine codeAny_mono (Mine.law_top (G := GG) (n := 100) rfl hL hI (by omega) (by omega) (Mine.callF_of (G := GG) e3 (by omega) rfl (Mine.main06 (G := GG) (Mine.libN _) (by omega) (by unfold Mine.only; rw [if_pos rfl])))) ?_
  rintro r s' ⟨rfl, h1, h2, h3⟩
  refine GoodW.toG ⟨.inl ⟨.bool true, .bool true, [], rfl, fun _ => rfl, .bool true, ?_, fun _ => ⟨.nil, fun a ha => (by cases ha)⟩⟩, h1, h2, h3.trans hg⟩
  first | (refine postW_of (X := true) ?_ ?_ ?_ <;> first | rfl | kernel_rfl) | kernel_rfl
