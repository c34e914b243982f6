import PyProof.Rows.All
import Wide.All
import OpenK.AllK
import Wide.FinOn
import Lean
import PySem.Challenge.RW_on0294_01
open PySem PySem.W PyProof.Rows
set_option Elab.async false
set_option maxRecDepth 100000
set_option rowWalk.seconds 0
namespace Mine
def topG (ok : Nat → Option Value → Thread → Bool) (st : SharedT → Thread → Option (SharedT × Thread)) (n₀ : Nat) (ann : Option Value) : Nat → SharedT → Thread → Option SharedT
  | 0, _, _ => none
  | n + 1, s, t => match through t with
    | true => some s
    | false => match ok n₀ ann t with
      | false => none
      | true => match st s t with
        | some (s', t') => topG ok st n₀ ann n s' t'
        | none => none
theorem topG_of {tb : String → Option Builtin} {p : Program} {w : World} {n₀ : Nat} {ann : Option Value} : ∀ {n : Nat} {s s' : SharedT} {t : Thread}, topG stepOk (stepT (denote tb) p w) n₀ ann n s t = some s' → topRun tb p w n₀ ann n s.abs t = some s'.abs
  | 0, _, _, _, h => by cases h
  | n + 1, s, s', t, h => by
    unfold topG at h
    unfold topRun
    cases he : through t with
    | true => rw [he] at h; cases h; rfl
    | false =>
      rw [he] at h
      cases hk : stepOk n₀ ann t with
      | false => rw [hk] at h; cases h
      | true =>
        rw [hk] at h
        cases hs : stepT (denote tb) p w s t with
        | none => rw [hs] at h; cases h
        | some r => obtain ⟨s₂, t₂⟩ := r; rw [hs] at h; rw [stepT_spec hs]; exact topG_of h
noncomputable def bootT (P : Params) : BT :=
  .node (boot_o_0 P) (.node (boot_o_1 P) (.node (boot_o_3 P) (.node (boot_o_7 P) .nil .nil) .nil) (.node (boot_o_5 P) (.node (boot_o_9 P) .nil .nil) .nil))
    (.node (boot_o_2 P) (.node (boot_o_4 P) (.node (boot_o_8 P) .nil .nil) .nil) (.node (boot_o_6 P) (.node (boot_o_10 P) .nil .nil) .nil))
theorem boot_abs (P : Params) : boot_heap P = absHeap (bootT P) 11 {} := by rfl
noncomputable def atBoot (w : World) (os : OsState) : SharedT := ⟨bootT w.params, 11, {}, Array.mk [], boot_drawn, boot_toks, os⟩
theorem atBoot_abs (w : World) (os : OsState) : (atBoot w os).abs = ⟨boot_heap w.params, Array.mk [], boot_drawn, boot_toks, os⟩ := by
  rw [boot_abs]; rfl
theorem left_of {p q : Program} {loose : List Str} {Xt : Shared → Bool} {α : Type} {Yf : Shared → α} {Ya : World → α} {N : Nat} (M : Nat) (e : opening p = plainProg p.main.scope.names) (f : ∀ s, fenceModules? p s = some s) (hN : Nat.ble 600 N = true)
    (size : ∀ w : World, ((boot_heap w.params).isNs mainGlobals && (Array.mk [] : Array GenState).size == 0, (boot_heap w.params).objs.size, (boot_heap w.params).nsMap mainGlobals "__annotations__") = (true, 11, some (Value.ref 6)))
    (run : ∀ w : World, (fun os => (topG stepOk (stepT (denote treeTable) p w) 11 (some (Value.ref 6)) M (atBoot w os) (topStub p)).map (fun s =>
        (staticsOk (importedModules p.main.body) (boot_heap w.params) s.abs.heap && namesBound p s.abs.heap && gensDone s.abs && laidKept (boot_heap w.params) s.abs.heap, openSeen q loose (importedModules p.main.body) Xt true s.abs, Yf s.abs))) =
      fun _ => some (true, openGood q loose, Ya w)) (le : Nat.ble M N = true) : LeftO p q loose Xt Yf Ya N true := fun w => by
  obtain ⟨⟨h, gs, d, k, os⟩, e, e'⟩ := Option.map_eq_some_iff.mp (boot_open e hN f w)
  obtain ⟨rfl, rfl, rfl, rfl⟩ : h = boot_heap w.params ∧ gs = Array.mk [] ∧ d = boot_drawn ∧ k = boot_toks := by simpa using e'
  obtain ⟨z1, z2, z3⟩ : _ ∧ _ ∧ _ := by simpa only [Prod.mk.injEq] using size w
  obtain ⟨s, r, l⟩ := Option.map_eq_some_iff.mp (congrFun (run w) os)
  obtain ⟨l1, l2, l3⟩ : _ ∧ _ ∧ _ := by simpa only [Prod.mk.injEq] using l
  have r := topRun_mono (N - M) _ _ _ _ (topG_of r)
  rw [show M + (N - M) = N by have := Nat.le_of_ble_eq_true le; omega] at r
  have t : topFrom treeTable p w N ⟨boot_heap w.params, Array.mk [], boot_drawn, boot_toks, os⟩ = some s.abs := by
    unfold topFrom
    dsimp only
    rw [z1, z2, z3]
    rw [atBoot_abs] at r
    rw [r]
    show (match staticsOk (importedModules p.main.body) (boot_heap w.params) s.abs.heap && namesBound p s.abs.heap && gensDone s.abs && laidKept (boot_heap w.params) s.abs.heap with | true => _ | false => _) = _
    rw [l1]
  unfold openEnds
  rw [e]
  show (topFrom treeTable p w N _).map _ = _
  rw [t]
  exact congrArg some (Prod.ext l2 l3)
def vw (p : Program) : Program := PySem.W.view p [0, 2, 3, 4, 5, 6, 7, 8, 9, 10, 11, 12, 13, 14, 15, 16, 18, 19, 21, 22, 23, 24, 25, 26, 27, 29, 30, 32, 33, 34, 35, 37, 38, 39, 40, 41, 42, 43]
def qv : Program := vw PySem.Challenge.pw_on0294_01
set_option hygiene false in
local macro_rules | `(tactic| o_head $H) => `(tactic| (
  refine PySem.W.holds_open (q := Mine.qv) (loose := [Str.ofString "EMPTY", Str.ofString "UNSPECIFIED"]) (Xt := fun s => xlAt Mine.qv [] s && recOk (RowW.records (OpenRow.toRowW (OpenLaw.row PySem.Challenge.rw_on0294_01))) s) (XP := XL Mine.qv []) (Yf := Hook.obs $H) (Ya := Hook.val $H) (YP := Hook.says $H) (N := 8168) ?hl (Hook.of $H) (Hook.keeps $H) (fun s e => xl_of s (Bool.and_eq_true_iff.mp e).1) XL.keeps (by rfl) (by rfl) (by rfl) (fun s e => recFacts_of (Bool.and_eq_true_iff.mp e).2) (by rfl) (by first | assumption | decide +kernel) (by decide +kernel) ⟨rfl, rfl, rfl, rfl, rfl, by decide +kernel⟩ ?hw ?hc
  case hl =>
    refine Mine.left_of 4100 (by rfl) (fun _ => rfl) (by decide) ?size ?run (by decide)
    case size => (intro w; kernel_rfl)
    case run =>
      rw [show (OpenLaw.row PySem.Challenge.rw_on0294_01).prog = PySem.Challenge.pw_on0294_01 from rfl, show Mine.qv = Mine.vw PySem.Challenge.pw_on0294_01 from rfl]
      rw [PySem.W.Fast.te14364793385576792824, PySem.W.Fast.te4214399093921236503, PySem.W.Fast.te10156331382660048174, PySem.W.Fast.te11892475500146522536, PySem.W.Fast.te6613529449190102663, PySem.W.Fast.te4187177175401517315, PySem.W.Fast.te5923862056798008813]
      intro w
      kernel_rfl))
set_option maxHeartbeats 0 in
open_top hd for PySem.Challenge.rw_on0294_01
open PySem.Calls PySem.Spec
inductive Pic where
  | num (t b : Int)
  | truth (i : Int)
  | char (i : Int)
  | sym (i : Int)
  | str (k : Int)
  | empty
  | nothing
  | vec (ps : List Pic)
  | pair (p q : Pic)
def abS (k : Int) : Str := if k = 0 then Str.ofString "" else if k = 1 then Str.ofString "a" else Str.ofString "ab"
mutual
def Pic.dat : Pic → Dat
  | .num t b => .tuple [.str (Str.ofString "number"), .int t, .int b]
  | .truth i => .tuple [.str (Str.ofString "truth"), .int i]
  | .char i => .tuple [.str (Str.ofString "char"), .int i]
  | .sym i => .tuple [.str (Str.ofString "symbol"), .int i]
  | .str k => .tuple [.str (Str.ofString "string"), .str (abS k)]
  | .empty => .tuple [.str (Str.ofString "empty")]
  | .nothing => .tuple [.str (Str.ofString "nothing")]
  | .vec ps => .tuple [.str (Str.ofString "vector"), .tuple (Pic.dats ps)]
  | .pair p q => .tuple [.str (Str.ofString "pair"), p.dat, q.dat]
def Pic.dats : List Pic → List Dat
  | [] => []
  | p :: ps => p.dat :: Pic.dats ps
end
def NumOk (t b : Int) : Prop := (b = 1 ∧ 0 ≤ t ∧ t ≤ 2) ∨ (t = 1 ∧ 1 ≤ b ∧ b ≤ 3)
def BitOk (i : Int) : Prop := 0 ≤ i ∧ i < 2
inductive Ok (w : Nat) : Nat → Pic → Prop
  | num {n : Nat} {t b : Int} : NumOk t b → Ok w n (.num t b)
  | truth {n : Nat} {i : Int} : BitOk i → Ok w n (.truth i)
  | char {n : Nat} {i : Int} : BitOk i → Ok w n (.char i)
  | sym {n : Nat} {i : Int} : BitOk i → Ok w n (.sym i)
  | str {n : Nat} {k : Int} : 0 ≤ k → k < 3 → Ok w n (.str k)
  | empty {n : Nat} : Ok w n .empty
  | nothing {n : Nat} : Ok w n .nothing
  | vec {n : Nat} {ps : List Pic} : ps.length ≤ w → (∀ p ∈ ps, Ok w n p) → Ok w (n + 1) (.vec ps)
  | pair {n : Nat} {p q : Pic} : Ok w n p → Ok w n q → Ok w (n + 1) (.pair p q)
theorem Ok.mono {w w' : Nat} (hw : w ≤ w') : ∀ {n n' : Nat} {p : Pic}, Ok w n p → n ≤ n' → Ok w' n' p := by
  intro n n' p h
  induction h generalizing n' with
  | num h => exact fun _ => .num h
  | truth h => exact fun _ => .truth h
  | char h => exact fun _ => .char h
  | sym h => exact fun _ => .sym h
  | str h k => exact fun _ => .str h k
  | empty => exact fun _ => .empty
  | nothing => exact fun _ => .nothing
  | vec hl _ ih =>
    intro hn
    obtain ⟨k, rfl⟩ : ∃ k, n' = k + 1 := ⟨n' - 1, by omega⟩
    exact .vec (Nat.le_trans hl hw) fun p hp => ih p hp (by omega)
  | pair _ _ ih1 ih2 =>
    intro hn
    obtain ⟨k, rfl⟩ : ∃ k, n' = k + 1 := ⟨n' - 1, by omega⟩
    exact .pair (ih1 (by omega)) (ih2 (by omega))
theorem dats_map : ∀ ps : List Pic, Pic.dats ps = ps.map Pic.dat
  | [] => by rw [Pic.dats]; rfl
  | p :: ps => by rw [Pic.dats, dats_map ps]; rfl
abbrev tupOf (vs : List Value) (n : Nat) : Obj := { cls := .type "tuple", data := .seq vs.toArray n }
section
variable {news : List (Addr × Obj)} {v : Value}
theorem in_num {t b : Int} (h : DatIn news v (Pic.num t b).dat) : ∃ a n t0 t1 t2, v = .ref a ∧ (a, tupOf [.str (Str.ofString "number") t0, .int t t1, .int b t2] n) ∈ news := by
  rw [Pic.dat] at h
  cases h with
  | tuple hm h =>
    cases h with | cons h0 h => cases h with | cons h1 h => cases h with | cons h2 h =>
      cases h; cases h0; cases h1; cases h2
      exact ⟨_, _, _, _, _, rfl, hm⟩
theorem in_truth {i : Int} (h : DatIn news v (Pic.truth i).dat) : ∃ a n t0 t1, v = .ref a ∧ (a, tupOf [.str (Str.ofString "truth") t0, .int i t1] n) ∈ news := by
  rw [Pic.dat] at h
  cases h with
  | tuple hm h =>
    cases h with | cons h0 h => cases h with | cons h1 h =>
      cases h; cases h0; cases h1
      exact ⟨_, _, _, _, rfl, hm⟩
theorem in_char {i : Int} (h : DatIn news v (Pic.char i).dat) : ∃ a n t0 t1, v = .ref a ∧ (a, tupOf [.str (Str.ofString "char") t0, .int i t1] n) ∈ news := by
  rw [Pic.dat] at h
  cases h with
  | tuple hm h =>
    cases h with | cons h0 h => cases h with | cons h1 h =>
      cases h; cases h0; cases h1
      exact ⟨_, _, _, _, rfl, hm⟩
theorem in_sym {i : Int} (h : DatIn news v (Pic.sym i).dat) : ∃ a n t0 t1, v = .ref a ∧ (a, tupOf [.str (Str.ofString "symbol") t0, .int i t1] n) ∈ news := by
  rw [Pic.dat] at h
  cases h with
  | tuple hm h =>
    cases h with | cons h0 h => cases h with | cons h1 h =>
      cases h; cases h0; cases h1
      exact ⟨_, _, _, _, rfl, hm⟩
theorem in_str {k : Int} (h : DatIn news v (Pic.str k).dat) : ∃ a n t0 t1, v = .ref a ∧ (a, tupOf [.str (Str.ofString "string") t0, .str (abS k) t1] n) ∈ news := by
  rw [Pic.dat] at h
  cases h with
  | tuple hm h =>
    cases h with | cons h0 h => cases h with | cons h1 h =>
      cases h; cases h0; cases h1
      exact ⟨_, _, _, _, rfl, hm⟩
theorem in_empty (h : DatIn news v Pic.empty.dat) : ∃ a n t0, v = .ref a ∧ (a, tupOf [.str (Str.ofString "empty") t0] n) ∈ news := by
  rw [Pic.dat] at h
  cases h with
  | tuple hm h =>
    cases h with | cons h0 h =>
      cases h; cases h0
      exact ⟨_, _, _, rfl, hm⟩
theorem in_nothing (h : DatIn news v Pic.nothing.dat) : ∃ a n t0, v = .ref a ∧ (a, tupOf [.str (Str.ofString "nothing") t0] n) ∈ news := by
  rw [Pic.dat] at h
  cases h with
  | tuple hm h =>
    cases h with | cons h0 h =>
      cases h; cases h0
      exact ⟨_, _, _, rfl, hm⟩
theorem in_vec {ps : List Pic} (h : DatIn news v (Pic.vec ps).dat) : ∃ a n t0 b k vs, v = .ref a ∧ (a, tupOf [.str (Str.ofString "vector") t0, .ref b] n) ∈ news ∧ (b, tupOf vs k) ∈ news ∧ DatAll news vs (ps.map Pic.dat) := by
  rw [Pic.dat] at h
  cases h with
  | tuple hm h =>
    cases h with | cons h0 h => cases h with | cons h1 h =>
      cases h; cases h0
      cases h1 with
      | tuple hm' h' => exact ⟨_, _, _, _, _, _, rfl, hm, hm', dats_map ps ▸ h'⟩
theorem in_pair {p q : Pic} (h : DatIn news v (Pic.pair p q).dat) : ∃ a n t0 v1 v2, v = .ref a ∧ (a, tupOf [.str (Str.ofString "pair") t0, v1, v2] n) ∈ news ∧ DatIn news v1 p.dat ∧ DatIn news v2 q.dat := by
  rw [Pic.dat] at h
  cases h with
  | tuple hm h =>
    cases h with | cons h0 h => cases h with | cons h1 h => cases h with | cons h2 h =>
      cases h; cases h0
      exact ⟨_, _, _, _, _, rfl, hm, h1, h2⟩
theorem mk_num {a : Addr} {n : Nat} {t0 t1 t2 : Tok} {t b : Int} (h : (a, tupOf [.str (Str.ofString "number") t0, .int t t1, .int b t2] n) ∈ news) : DatIn news (.ref a) (Pic.num t b).dat := by
  rw [Pic.dat]; exact .tuple h (.cons (.str _ _) (.cons (.int _ _) (.cons (.int _ _) .nil)))
theorem mk_truth {a : Addr} {n : Nat} {t0 t1 : Tok} {i : Int} (h : (a, tupOf [.str (Str.ofString "truth") t0, .int i t1] n) ∈ news) : DatIn news (.ref a) (Pic.truth i).dat := by
  rw [Pic.dat]; exact .tuple h (.cons (.str _ _) (.cons (.int _ _) .nil))
theorem mk_char {a : Addr} {n : Nat} {t0 t1 : Tok} {i : Int} (h : (a, tupOf [.str (Str.ofString "char") t0, .int i t1] n) ∈ news) : DatIn news (.ref a) (Pic.char i).dat := by
  rw [Pic.dat]; exact .tuple h (.cons (.str _ _) (.cons (.int _ _) .nil))
theorem mk_sym {a : Addr} {n : Nat} {t0 t1 : Tok} {i : Int} (h : (a, tupOf [.str (Str.ofString "symbol") t0, .int i t1] n) ∈ news) : DatIn news (.ref a) (Pic.sym i).dat := by
  rw [Pic.dat]; exact .tuple h (.cons (.str _ _) (.cons (.int _ _) .nil))
theorem mk_str {a : Addr} {n : Nat} {t0 t1 : Tok} {k : Int} (h : (a, tupOf [.str (Str.ofString "string") t0, .str (abS k) t1] n) ∈ news) : DatIn news (.ref a) (Pic.str k).dat := by
  rw [Pic.dat]; exact .tuple h (.cons (.str _ _) (.cons (.str _ _) .nil))
theorem mk_empty {a : Addr} {n : Nat} {t0 : Tok} (h : (a, tupOf [.str (Str.ofString "empty") t0] n) ∈ news) : DatIn news (.ref a) Pic.empty.dat := by
  rw [Pic.dat]; exact .tuple h (.cons (.str _ _) .nil)
theorem mk_nothing {a : Addr} {n : Nat} {t0 : Tok} (h : (a, tupOf [.str (Str.ofString "nothing") t0] n) ∈ news) : DatIn news (.ref a) Pic.nothing.dat := by
  rw [Pic.dat]; exact .tuple h (.cons (.str _ _) .nil)
theorem mk_vec {a b : Addr} {n k : Nat} {t0 : Tok} {vs : List Value} {ps : List Pic} (h : (a, tupOf [.str (Str.ofString "vector") t0, .ref b] n) ∈ news) (hb : (b, tupOf vs k) ∈ news) (hv : DatAll news vs (ps.map Pic.dat)) : DatIn news (.ref a) (Pic.vec ps).dat := by
  rw [Pic.dat, dats_map]; exact .tuple h (.cons (.str _ _) (.cons (.tuple hb hv) .nil))
theorem mk_pair {a : Addr} {n : Nat} {t0 : Tok} {v1 v2 : Value} {p q : Pic} (h : (a, tupOf [.str (Str.ofString "pair") t0, v1, v2] n) ∈ news) (h1 : DatIn news v1 p.dat) (h2 : DatIn news v2 q.dat) : DatIn news (.ref a) (Pic.pair p q).dat := by
  rw [Pic.dat]; exact .tuple h (.cons (.str _ _) (.cons h1 (.cons h2 .nil)))
end
theorem abS_inj {j k : Int} (hj0 : 0 ≤ j) (hj : j < 3) (hk0 : 0 ≤ k) (hk : k < 3) (h : abS j = abS k) : j = k := by
  have a1 : j = 0 ∨ j = 1 ∨ j = 2 := by omega
  have a2 : k = 0 ∨ k = 1 ∨ k = 2 := by omega
  have d1 : ¬ (Str.ofString "" = Str.ofString "a") := by decide +kernel
  have d2 : ¬ (Str.ofString "" = Str.ofString "ab") := by decide +kernel
  have d3 : ¬ (Str.ofString "a" = Str.ofString "ab") := by decide +kernel
  rcases a1 with rfl | rfl | rfl <;> rcases a2 with rfl | rfl | rfl <;> first
    | rfl
    | (exfalso; simp only [abS, if_true, if_false, Int.reduceEq] at h; first | exact d1 h | exact d2 h | exact d3 h | exact d1 h.symm | exact d2 h.symm | exact d3 h.symm)
theorem word_ne (a b : String) (h : ¬ (Str.ofString a = Str.ofString b)) {P : Prop} : Dat.str (Str.ofString a) = Dat.str (Str.ofString b) → P := fun e => absurd (Dat.str.inj e) h
theorem dat_inj : ∀ {w n n' : Nat} {p q : Pic}, Ok w n p → Ok w n' q → p.dat = q.dat → p = q := by
  intro w n n' p q hp
  have ne (a b : String) (h : decide (Str.ofString a = Str.ofString b) = false) : ¬ (Str.ofString a = Str.ofString b) := of_decide_eq_false h
  induction hp generalizing q n' with
  | num h =>
    intro hq e
    cases hq <;> simp only [Pic.dat, Dat.tuple.injEq, List.cons.injEq, Dat.str.injEq, Dat.int.injEq, and_true] at e <;> first
      | (obtain ⟨_, rfl, rfl⟩ := e; rfl)
      | (exact absurd e.1 (by decide +kernel))
      | (exact absurd e (by simp))
  | truth h =>
    intro hq e
    cases hq <;> simp only [Pic.dat, Dat.tuple.injEq, List.cons.injEq, Dat.str.injEq, Dat.int.injEq, and_true] at e <;> first
      | (obtain ⟨_, rfl⟩ := e; rfl)
      | (exact absurd e.1 (by decide +kernel))
      | (exact absurd e (by simp))
  | char h =>
    intro hq e
    cases hq <;> simp only [Pic.dat, Dat.tuple.injEq, List.cons.injEq, Dat.str.injEq, Dat.int.injEq, and_true] at e <;> first
      | (exact absurd e.1 (by decide +kernel))
      | (obtain ⟨_, rfl⟩ := e; rfl)
      | (exact absurd e (by simp))
  | sym h =>
    intro hq e
    cases hq <;> simp only [Pic.dat, Dat.tuple.injEq, List.cons.injEq, Dat.str.injEq, Dat.int.injEq, and_true] at e <;> first
      | (exact absurd e.1 (by decide +kernel))
      | (obtain ⟨_, rfl⟩ := e; rfl)
      | (exact absurd e (by simp))
  | str h0 h1 =>
    intro hq e
    cases hq <;> simp only [Pic.dat, Dat.tuple.injEq, List.cons.injEq, Dat.str.injEq, Dat.int.injEq, and_true] at e <;> first
      | (exact absurd e.1 (by decide +kernel))
      | (rename_i k0 k1; rw [abS_inj h0 h1 k0 k1 e.2])
      | (exact absurd e (by simp))
  | empty =>
    intro hq e
    cases hq <;> simp only [Pic.dat, Dat.tuple.injEq, List.cons.injEq, Dat.str.injEq, Dat.int.injEq, and_true] at e <;> first
      | rfl
      | (exact absurd e (by decide +kernel))
      | (exact absurd e.1 (by decide +kernel))
      | (exact absurd e (by simp))
  | nothing =>
    intro hq e
    cases hq <;> simp only [Pic.dat, Dat.tuple.injEq, List.cons.injEq, Dat.str.injEq, Dat.int.injEq, and_true] at e <;> first
      | rfl
      | (exact absurd e (by decide +kernel))
      | (exact absurd e.1 (by decide +kernel))
      | (exact absurd e (by simp))
  | @vec n ps hl hps ih =>
    intro hq e
    cases hq with
    | @vec n' qs hl' hqs =>
      simp only [Pic.dat, Dat.tuple.injEq, List.cons.injEq, and_true, true_and, dats_map] at e
      have all : ∀ ps qs : List Pic, (∀ p ∈ ps, ∀ {n' : Nat} {q : Pic}, Ok w n' q → p.dat = q.dat → p = q) → (∀ q ∈ qs, Ok w n' q) → ps.map Pic.dat = qs.map Pic.dat → ps = qs := by
        intro ps
        induction ps with
        | nil => intro qs _ _ e; cases qs with | nil => rfl | cons _ _ => simp at e
        | cons p ps hi =>
          intro qs h1 h2 e
          cases qs with
          | nil => simp at e
          | cons q qs =>
            simp only [List.map_cons, List.cons.injEq] at e
            rw [h1 p (.head _) (h2 q (.head _)) e.1, hi qs (fun x hx => h1 x (.tail _ hx)) (fun x hx => h2 x (.tail _ hx)) e.2]
      rw [all ps qs (fun p hp => ih p hp) hqs e]
    | _ => simp only [Pic.dat, Dat.tuple.injEq, List.cons.injEq, Dat.str.injEq, Dat.int.injEq, and_true] at e; first | (exact absurd e.1 (by decide +kernel)) | (exact absurd e (by simp))
  | pair h1 h2 ih1 ih2 =>
    intro hq e
    cases hq with
    | pair k1 k2 =>
      simp only [Pic.dat, Dat.tuple.injEq, List.cons.injEq, and_true, true_and] at e
      rw [ih1 k1 e.1, ih2 k2 e.2]
    | _ => simp only [Pic.dat, Dat.tuple.injEq, List.cons.injEq, Dat.str.injEq, Dat.int.injEq, and_true] at e; first | (exact absurd e.1 (by decide +kernel)) | (exact absurd e (by simp))
theorem dat_ok {w : Nat} : ∀ {n : Nat} {p : Pic}, Ok w n p → kqdOk (2 * n + 1) p.dat = true := by
  intro n p h
  have up : ∀ (d : Dat) (k k' : Nat), k ≤ k' → kqdOk k d = true → kqdOk k' d = true := by
    intro d
    induction d using Dat.rec (motive_2 := fun ds => ∀ d ∈ ds, ∀ (k k' : Nat), k ≤ k' → kqdOk k d = true → kqdOk k' d = true) with
    | none => intro k k' _ h; cases k' <;> simp [kqdOk]
    | bool b => intro k k' _ h; cases k <;> simp [kqdOk] at h
    | int i => intro k k' _ h; cases k' <;> simp [kqdOk]
    | str x => intro k k' _ h; cases k <;> cases k' <;> simpa [kqdOk] using h
    | bytes b => intro k k' _ h; cases k <;> simp [kqdOk] at h
    | tuple ds ih =>
      intro k k' hk h
      cases k with
      | zero => simp [kqdOk] at h
      | succ k =>
        obtain ⟨j, rfl⟩ : ∃ j, k' = j + 1 := ⟨k' - 1, by omega⟩
        simp only [kqdOk, List.all_eq_true] at h ⊢
        exact fun d hd => ih d hd k j (by omega) (h d hd)
    | list ds ih =>
      intro k k' hk h
      cases k with
      | zero => simp [kqdOk] at h
      | succ k =>
        obtain ⟨j, rfl⟩ : ∃ j, k' = j + 1 := ⟨k' - 1, by omega⟩
        simp only [kqdOk, List.all_eq_true] at h ⊢
        exact fun d hd => ih d hd k j (by omega) (h d hd)
    | nil => exact absurd (by assumption : _ ∈ ([] : List Dat)) (by simp)
    | cons d ds h1 h2 =>
      rename_i e he k k' hk hkk
      rcases List.mem_cons.mp he with rfl | he
      · exact h1 k k' hk hkk
      · exact h2 e he k k' hk hkk
  have s1 (x : String) (h : PyData.strOk (Str.ofString x) = true) : ∀ k, kqdOk k (.str (Str.ofString x)) = true := fun k => by cases k <;> simpa [kqdOk] using h
  have i1 : ∀ (k : Nat) (i : Int), kqdOk k (.int i) = true := fun k i => by cases k <;> simp [kqdOk]
  induction h with
  | num h => simp only [Pic.dat, kqdOk, List.all_cons, List.all_nil, i1, s1 "number" (by decide +kernel), Bool.and_self]
  | truth h => simp only [Pic.dat, kqdOk, List.all_cons, List.all_nil, i1, s1 "truth" (by decide +kernel), Bool.and_self]
  | char h => simp only [Pic.dat, kqdOk, List.all_cons, List.all_nil, i1, s1 "char" (by decide +kernel), Bool.and_self]
  | sym h => simp only [Pic.dat, kqdOk, List.all_cons, List.all_nil, i1, s1 "symbol" (by decide +kernel), Bool.and_self]
  | @str n k h0 h1 =>
    have e : kqdOk (2 * n) (.str (abS k)) = true := by
      unfold abS
      split
      · exact s1 "" (by decide +kernel) _
      · split
        · exact s1 "a" (by decide +kernel) _
        · exact s1 "ab" (by decide +kernel) _
    simp only [Pic.dat, kqdOk, List.all_cons, List.all_nil, s1 "string" (by decide +kernel), e, Bool.and_self]
  | empty => simp only [Pic.dat, kqdOk, List.all_cons, List.all_nil, s1 "empty" (by decide +kernel), Bool.and_self]
  | nothing => simp only [Pic.dat, kqdOk, List.all_cons, List.all_nil, s1 "nothing" (by decide +kernel), Bool.and_self]
  | @vec n ps hl _ ih =>
    have e : kqdOk (2 * n + 2) (.tuple (Pic.dats ps)) = true := by
      rw [dats_map]
      simp only [kqdOk, List.all_eq_true, List.mem_map]
      rintro d ⟨p, hp, rfl⟩
      exact ih p hp
    rw [show 2 * (n + 1) + 1 = (2 * n + 2) + 1 by omega]
    rw [Pic.dat]
    show List.all [_, _] (kqdOk (2 * n + 2)) = true
    rw [List.all_cons, List.all_cons, List.all_nil, s1 "vector" (by decide +kernel), e]; rfl
  | @pair n p q _ _ ih1 ih2 =>
    rw [show 2 * (n + 1) + 1 = (2 * n + 2) + 1 by omega]
    rw [Pic.dat]
    show List.all [_, _, _] (kqdOk (2 * n + 2)) = true
    rw [List.all_cons, List.all_cons, List.all_cons, List.all_nil, s1 "pair" (by decide +kernel), up _ _ (2 * n + 2) (by omega) ih1, up _ _ (2 * n + 2) (by omega) ih2]; rfl
open Classical in
theorem pic_eq {prog : Program} {w : World} {A : Around} {E : Value → Shared → Prop} {s : Shared} {h₀ : Heap} {L : Addr} {news : List (Addr × Obj)} {Q : Value → Shared → Prop} {va vb : Value} {p q : Pic} {k n : Nat}
    (N : News h₀ L s.heap news) (ha : DatIn news va p.dat) (hb : DatIn news vb q.dat) (oa : Ok k n p) (ob : Ok k n q) (hn : n ≤ 20) (hu : A.units + 64 < cLine) (h : Q (.bool (decide (p = q))) s) :
    wpAny (model prog w) A (compareOp .Eq va vb) Q E s := by
  obtain ⟨as, ra⟩ := kqd_in N _ ha (dat_ok oa)
  obtain ⟨bs, rb⟩ := kqd_in N _ hb (dat_ok ob)
  have la := kqd_lay _ _ (dat_ok oa)
  have lb := kqd_lay _ _ (dat_ok ob)
  have e : PyData.eqv (kqdP p.dat) (kqdP q.dat) = decide (p = q) := by
    have z := kqd_eqv _ p.dat q.dat _ (dat_ok oa) (dat_ok ob)
    by_cases hq : p = q
    · rw [decide_eq_true hq]; exact z.mpr (by rw [hq])
    · rw [decide_eq_false hq]; exact Bool.eq_false_iff.mpr fun x => hq (dat_inj oa ob (z.mp x))
  refine eq_dataH ra rb ?_ ?_ hu (by rw [e]; exact h)
  · unfold SeqAt.shaped; rw [la.1, Bool.true_and]; exact decide_eq_true (Nat.le_trans la.2 (by omega))
  · unfold SeqAt.shaped; rw [lb.1, Bool.true_and]; exact decide_eq_true (Nat.le_trans lb.2 (by omega))
section
local macro_rules | `(tactic| walk_at $s:str) => `(tactic| k_extra $s)
local macro_rules | `(tactic| k_room) => `(tactic| ktr_room)
local macro_rules | `(tactic| k_units) => `(tactic| ktr_units)
local macro_rules | `(tactic| ke_room) => `(tactic| ktr_units)
local macro_rules | `(tactic| k_all) => `(tactic| assumption)
local macro_rules | `(tactic| kl_room) => `(tactic| (show List.length _ ≤ sizeLine; assumption))
theorem fillK : PySem.Challenge.rw_on0294_01 = PySem.Challenge.rw_on0294_01 ∧ Mine.hd.heap_39 = Mine.hd.heap_39 := by
  k_fill
  exact ⟨rfl, rfl⟩
section
variable {prog : Program} {w : World} {p : Program} {loose : List Str} {mean : ExcName → Option Value} {mg mb : Str → Option Value}
variable {dp un : Nat} {gd : Option (List Code)} {cn : Str} {cs : Scope} {a : Addr} {ccd : Value} {cl : List (Str × Addr)} {outer : List Env} {A₀ : Around} {base h₀ : Heap} {L : Addr} {m : Str → Option Value} {news : List (Addr × Obj)} {s : Shared} {Q E : Value → Shared → Prop}
def CellsOk (cells : List Int) : Prop := cells.length ≤ 64 ∧ ∀ c ∈ cells, 0 ≤ c
theorem ints_small {vs : List Value} {cs : List Int} (x : Value) (h : IntsAre vs cs) (hc : cs.length + 1 ≤ 64) : (x :: vs).length ≤ sizeLine := by
  have := h.length
  rw [List.length_cons, sizeLine_eq]; omega
theorem cells_tail {c : Int} {cs : List Int} (h : CellsOk (c :: cs)) : CellsOk cs := ⟨by have := h.1; rw [List.length_cons] at this; omega, fun x hx => h.2 x (.tail _ hx)⟩
theorem cells_set {c x : Int} {cs : List Int} (h : CellsOk (c :: cs)) (hx : 0 ≤ x) : CellsOk (x :: cs) := ⟨by have := h.1; rw [List.length_cons] at this ⊢; omega, fun y hy => by
  rcases List.mem_cons.mp hy with rfl | hy
  · exact hx
  · exact h.2 y (.tail _ hy)⟩
theorem seq0 {x : Value} {vs : List Value} : seqIndex? 0 (List.toArray (x :: vs)).size = some 0 := by
  simp [seqIndex?]
def DrawJ (d l : Addr) (mixed : Int) (t : Tok) (n1 : Nat) (news : List (Addr × Obj)) (m0 : Str → Option Value) (n : Nat) (m₁ : Str → Option Value) (nx : List (Addr × Obj)) : Prop :=
  m₁ = m0 ∧ ∃ (vals' : List Value) (n2' : Nat) (cells' : List Int), nx = (d, listOf [Value.ref l, Value.int mixed t].toArray n1) :: (l, listOf vals'.toArray n2') :: news ∧ IntsAre vals' cells' ∧ CellsOk cells' ∧ cells'.length = n
theorem news_drop {h₀ h : Heap} {L : Addr} {q : Addr × Obj} {n : List (Addr × Obj)} (N : News h₀ L h (q :: n)) : News h₀ L h n := fun p hp => N p (.tail _ hp)
theorem news_sub {h₀ h : Heap} {L : Addr} {n₁ n₂ : List (Addr × Obj)} (N : News h₀ L h n₁) (hs : ∀ p ∈ n₂, p ∈ n₁) : News h₀ L h n₂ := fun p hp => N p (hs p hp)
set_option maxHeartbeats 8000000 in
theorem draw_call {d l : Addr} {mixed : Int} {t tm : Tok} {n1 n2 : Nat} {vals : List Value} {cells : List Int} {many : Int}
    (B : Below A₀ base outer h₀) (F : Fr h₀ L s.heap m) (X : (Mine.hd.heap_39 w.params).In h₀)
    (N : News h₀ L s.heap ((d, listOf [Value.ref l, Value.int mixed t].toArray n1) :: (l, listOf vals.toArray n2) :: news))
    (T : Top p loose mean mg mb h₀) (hk : cs.kind = .function) (hd : dp + 1 < recursionLimit) (hu : un + 200 < cLine)
    (hdl : @Ne Nat d l) (hod : ∀ p ∈ news, p.1 ≠ d) (hol : ∀ p ∈ news, p.1 ≠ l)
    (hI : IntsAre vals cells) (hc : CellsOk cells) (hm0 : 0 ≤ mixed) (hm1 : mixed < 2147483647) (h1 : 1 ≤ many) (h2 : many < 100)
    (ret : ∀ (v : Int) tv mixed' t' n1' vals' cells' n2' h' tk', 0 ≤ v → v < many → IntsAre vals' cells' → CellsOk cells' → 0 ≤ mixed' → mixed' < 2147483647 →
      Fr h₀ L h' m → News h₀ L h' ((d, listOf [Value.ref l, Value.int mixed' t'].toArray n1') :: (l, listOf vals'.toArray n2') :: news) → Q (.int v tv) { s with heap := h', toks := tk' }) :
    wpAny (model prog w) (ktrTop dp un gd cn cs L a ccd cl outer) (call (.ref 451) [.ref d, .int many tm]) Q E s := by
  w_top off
  k_with_none
  (k_with "call builtin:list.pop" => (k_here; k_dflt (refine' kl_popAt (k := 0) ?F ?N ?f ?k ?e ?U ?z ?_; (case F => k_asm); (case N => k_asm); (case U => k_upd); (case f => rfl); (case k => exact seq0); (case e => rfl); (case z => exact hsz _)); kl_rest))
  (k_with "exec While BoolOp" => (
  k_here
  (rename Fr _ _ _ _ => lF')
  (rename News _ _ _ _ => lN')
  refine While_inv2 (DrawJ d l mixed t n1 news _) lF' lN' ⟨rfl, vals, n2, cells, rfl, hI, hc, rfl⟩ ?_ (by with_unfolding_all passes_own)
  clear lF' lN' hI hc
  rintro n m₁ nx h₁ tk₁ F₁ N₁ ⟨rfl, vals', n2', cells', rfl, hI, hc, hn⟩
  rcases cells' with _ | ⟨c0, cells'⟩ <;> cases hI
  all_goals (try (rename IntsAre _ _ => hI'; have hsz := fun x => ints_small x hI' hc.1))))
  refine wpAny_call ?_
  k_dflt ktr_enter
  k_steps
  all_goals (try (exfalso; simp only [reduceCtorEq, decide_false, Bool.false_eq_true] at *; done))
  all_goals (
    (rename Fr _ _ _ _ => kF)
    (rename News _ _ _ _ => kN)
    first
      | (refine ⟨_, _, _, _, cells'.length, rfl, kF, news_drop kN, ?_, rfl, _, _, _, rfl, hI', cells_tail hc, rfl⟩
         rw [← hn, List.length_cons]; omega)
      | exact ret _ _ _ _ _ [] [] _ _ _ (Int.fmod_nonneg_of_pos _ (by omega)) (Int.fmod_lt_of_pos _ (by omega)) .nil hc (Int.fmod_nonneg_of_pos _ (by omega)) (Int.fmod_lt_of_pos _ (by omega)) kF (news_drop (news_drop kN))
      | exact ret _ _ _ _ _ _ (c0.fdiv many :: cells') _ _ _ (Int.fmod_nonneg_of_pos _ (by omega)) (Int.fmod_lt_of_pos _ (by omega)) (.cons _ _ hI') (cells_set hc (Int.fdiv_nonneg (hc.2 _ (.head _)) (by omega))) hm0 hm1 kF (news_drop (news_drop kN)))
end
end
theorem split1 {v : Int} (h0 : 0 ≤ v) (h : v < 1) : v = 0 := by omega
theorem split2 {v : Int} (h0 : 0 ≤ v) (h : v < 2) : v = 0 ∨ v = 1 := by omega
theorem split3 {v : Int} (h0 : 0 ≤ v) (h : v < 3) : v = 0 ∨ v = 1 ∨ v = 2 := by omega
theorem split4 {v : Int} (h0 : 0 ≤ v) (h : v < 4) : v = 0 ∨ v = 1 ∨ v = 2 ∨ v = 3 := by omega
theorem split7 {v : Int} (h0 : 0 ≤ v) (h : v < 7) : v = 0 ∨ v = 1 ∨ v = 2 ∨ v = 3 ∨ v = 4 ∨ v = 5 ∨ v = 6 := by omega
theorem split10 {v : Int} (h0 : 0 ≤ v) (h : v < 10) : v = 0 ∨ v = 1 ∨ v = 2 ∨ v = 3 ∨ v = 4 ∨ v = 5 ∨ v = 6 ∨ v = 7 ∨ v = 8 ∨ v = 9 := by omega
theorem mem_h {q : Addr × Obj} {r : List (Addr × Obj)} : q ∈ q :: r := .head _
theorem mem_t {q p : Addr × Obj} {r : List (Addr × Obj)} (h : q ∈ r) : q ∈ p :: r := .tail _ h
theorem mem_l {q : Addr × Obj} {l r : List (Addr × Obj)} (h : q ∈ l) : q ∈ l ++ r := List.mem_append.mpr (.inl h)
theorem mem_r {q : Addr × Obj} {l r : List (Addr × Obj)} (h : q ∈ r) : q ∈ l ++ r := List.mem_append.mpr (.inr h)
/-- q stands in the ledger; the rest without it -/
inductive Pick (q : Addr × Obj) : List (Addr × Obj) → List (Addr × Obj) → Prop
  | head {r} : Pick q (q :: r) r
  | tail {p r r'} : Pick q r r' → Pick q (p :: r) (p :: r')
  | app {t r r'} : Pick q r r' → Pick q (t ++ r) (t ++ r')
theorem Pick.mem {q : Addr × Obj} {l r : List (Addr × Obj)} (h : Pick q l r) : ∀ p ∈ q :: r, p ∈ l := by
  induction h with
  | head => exact fun _ h => h
  | tail _ ih =>
    intro p hp
    rcases List.mem_cons.mp hp with rfl | hp
    · exact .tail _ (ih _ (.head _))
    · rcases List.mem_cons.mp hp with rfl | hp
      · exact .head _
      · exact .tail _ (ih _ (.tail _ hp))
  | app _ ih =>
    intro p hp
    rcases List.mem_cons.mp hp with rfl | hp
    · exact List.mem_append.mpr (.inr (ih _ (.head _)))
    · rcases List.mem_append.mp hp with hp | hp
      · exact List.mem_append.mpr (.inl hp)
      · exact List.mem_append.mpr (.inr (ih _ (.tail _ hp)))
theorem Pick.news {q : Addr × Obj} {l r : List (Addr × Obj)} {h₀ h : Heap} {L : Addr} (k : Pick q l r) (N : News h₀ L h l) : News h₀ L h (q :: r) := news_sub N k.mem
theorem Pick.news2 {q q' : Addr × Obj} {l r r' : List (Addr × Obj)} {h₀ h : Heap} {L : Addr} (k : Pick q l r) (k' : Pick q' r r') (N : News h₀ L h l) : News h₀ L h (q :: q' :: r') :=
  news_sub N fun p hp => k.mem _ (by
    rcases List.mem_cons.mp hp with rfl | hp
    · exact .head _
    · exact .tail _ (k'.mem _ hp))
theorem Pick.news3 {q q' q'' : Addr × Obj} {l r r' r'' : List (Addr × Obj)} {h₀ h : Heap} {L : Addr} (k : Pick q l r) (k' : Pick q' r r') (k'' : Pick q'' r' r'') (N : News h₀ L h l) : News h₀ L h (q :: q' :: q'' :: r'') :=
  news_sub N fun p hp => k.mem _ (by
    rcases List.mem_cons.mp hp with rfl | hp
    · exact .head _
    · refine .tail _ (k'.mem _ ?_)
      rcases List.mem_cons.mp hp with rfl | hp
      · exact .head _
      · exact .tail _ (k''.mem _ hp))
/-- a ledger is what was added and what stood -/
inductive Tail (imm : List (Addr × Obj)) : List (Addr × Obj) → List (Addr × Obj) → Prop
  | nil : Tail imm imm []
  | cons {x r t} : Tail imm r t → Tail imm (x :: r) (x :: t)
  | app {l r t} : Tail imm r t → Tail imm (l ++ r) (l ++ t)
theorem Tail.eq {imm r t : List (Addr × Obj)} (h : Tail imm r t) : r = t ++ imm := by
  induction h with
  | nil => rfl
  | cons _ ih => rw [ih]; rfl
  | app _ ih => rw [ih, List.append_assoc]
theorem allLt_mem {d : Addr} {l : List (Addr × Obj)} (h : AllLt d l) (p : Addr × Obj) (hp : p ∈ l) : @LT.lt Nat _ p.1 d := ktn_ltOf h p hp
theorem allLt_app {d : Addr} {l r : List (Addr × Obj)} : AllLt d (l ++ r) = (AllLt d l ∧ AllLt d r) :=
  propext ⟨fun h => ⟨allLt_of fun p hp => allLt_mem h p (List.mem_append.mpr (.inl hp)), allLt_of fun p hp => allLt_mem h p (List.mem_append.mpr (.inr hp))⟩,
    fun h => allLt_of fun p hp => (List.mem_append.mp hp).elim (allLt_mem h.1 p) (allLt_mem h.2 p)⟩
/-- no object of tl stands where the ledger imm has one -/
def Over (imm tl : List (Addr × Obj)) : Prop := ∀ q ∈ tl, ∀ e ∈ imm, @Ne Nat e.1 q.1
theorem Over.nil {imm : List (Addr × Obj)} : Over imm [] := fun _ h => nomatch h
theorem Over.cons {imm tl : List (Addr × Obj)} {x : Addr × Obj} (h : ∀ e ∈ imm, @Ne Nat e.1 x.1) (k : Over imm tl) : Over imm (x :: tl) := fun q hq => by
  rcases List.mem_cons.mp hq with rfl | hq
  · exact h
  · exact k q hq
theorem Over.app {imm l tl : List (Addr × Obj)} (h : Over imm l) (k : Over imm tl) : Over imm (l ++ tl) := fun q hq => by
  rcases List.mem_append.mp hq with hq | hq
  · exact h q hq
  · exact k q hq
theorem Over.sub {imm imm' tl : List (Addr × Obj)} (h : Over imm tl) (s : ∀ p ∈ imm', p ∈ imm) : Over imm' tl := fun q hq e he => h q hq e (s e he)
theorem Over.ne {imm tl : List (Addr × Obj)} {d : Addr} {o : Obj} (h : Over imm tl) (m : (d, o) ∈ imm) : ∀ q ∈ tl, q.1 ≠ d := fun q hq => Ne.symm (h q hq _ m)
theorem over_lt {imm : List (Addr × Obj)} {x b : Addr} (h : AllLt b imm) (hx : @LT.lt Nat _ b x) : AllLt x imm := allLt_of fun p hp => Nat.lt_trans (allLt_mem h p hp) hx
theorem apart_lt {imm : List (Addr × Obj)} {x : Addr} (h : AllLt x imm) : ∀ e ∈ imm, @Ne Nat e.1 x := fun e he => Nat.ne_of_lt (allLt_mem h e he)
theorem apart_off {D : Addr} {l : List (Addr × Obj)} (h : LCg.Off1 D l) : ∀ e ∈ l, @Ne Nat e.1 D := by
  induction l with
  | nil => exact fun _ h => nomatch h
  | cons x l ih =>
    intro e he
    rcases List.mem_cons.mp he with rfl | he
    · exact h.1
    · exact ih h.2 e he
theorem off3_over {imm tl : List (Addr × Obj)} {I C D : Addr} {oI oC oD : Obj} (h : Over imm tl) (m1 : (I, oI) ∈ imm) (m2 : (C, oC) ∈ imm) (m3 : (D, oD) ∈ imm) : ∀ p ∈ tl, p.1 ≠ I ∧ p.1 ≠ C ∧ p.1 ≠ D :=
  fun p hp => ⟨Over.ne h m1 p hp, Over.ne h m2 p hp, Over.ne h m3 p hp⟩
theorem off3_addr {I C D a : Addr} {o : Obj} {l : List (Addr × Obj)} (h : LCg.Off3 I C D l) (m : (a, o) ∈ l) : a ≠ I ∧ a ≠ C ∧ a ≠ D := LCg.Off3.mem h (a, o) m
theorem off_I {I C D a : Addr} {o : Obj} {l : List (Addr × Obj)} (h : LCg.Off3 I C D l) (m : (a, o) ∈ l) : I ≠ a := Ne.symm (LCg.Off3.mem h (a, o) m).1
theorem off_C {I C D a : Addr} {o : Obj} {l : List (Addr × Obj)} (h : LCg.Off3 I C D l) (m : (a, o) ∈ l) : C ≠ a := Ne.symm (LCg.Off3.mem h (a, o) m).2.1
theorem off_D {I C D a : Addr} {o : Obj} {l : List (Addr × Obj)} (h : LCg.Off3 I C D l) (m : (a, o) ∈ l) : D ≠ a := Ne.symm (LCg.Off3.mem h (a, o) m).2.2
theorem off_1 {D a : Addr} {o : Obj} {l : List (Addr × Obj)} (h : LCg.Off1 D l) (m : (a, o) ∈ l) : D ≠ a := Ne.symm (apart_off h (a, o) m)
theorem gt_ne {x d : Addr} (h : @LT.lt Nat _ d x) : x ≠ d := Nat.ne_of_gt h
theorem room_s {dp n R : Nat} (h : dp + (n + 1 + 4) < R) : dp + 1 + (n + 4) < R := by omega
theorem room_d {dp n R : Nat} (h : dp + (n + 4) < R) : dp + 1 + 1 < R := by omega
theorem units_s {un n R : Nat} (h : un + (20 * (n + 1) + 300) < R) : un + 3 + (20 * n + 300) < R := by omega
theorem units_d {un n R : Nat} (h : un + (20 * n + 300) < R) : un + 3 + 200 < R := by omega
theorem room_t1 {dp n R : Nat} (h : dp + (n + 10) < R) : dp + 1 + (1 + 4) < R := by omega
theorem room_td {dp n R : Nat} (h : dp + (n + 10) < R) : dp + 1 + 1 < R := by omega
theorem room_ts {dp n R : Nat} (h : dp + (n + 1 + 10) < R) : dp + 1 + (n + 10) < R := by omega
theorem units_t1 {un n R : Nat} (h : un + (20 * n + 500) < R) : un + 3 + (20 * 1 + 300) < R := by omega
theorem units_td {un n R : Nat} (h : un + (20 * n + 500) < R) : un + 3 + 200 < R := by omega
theorem units_ts {un n R : Nat} (h : un + (20 * (n + 1) + 500) < R) : un + 3 + (20 * n + 500) < R := by omega
theorem range_size {v : Int} (h0 : 0 ≤ v) (h : v < 4) : Builtin.Range.rangeSize 0 v 1 = ((v.toNat : Nat) : Int) := by
  rcases (show v = 0 ∨ v = 1 ∨ v = 2 ∨ v = 3 by omega) with rfl | rfl | rfl | rfl <;> rfl
theorem range_le {v : Int} (h : v < 4) : v.toNat ≤ sizeLine := by rw [sizeLine_eq]; omega
theorem range_small {v : Int} (h0 : 0 ≤ v) (h : v < 4) : Builtin.Range.small 0 v 1 = true := by
  rcases (show v = 0 ∨ v = 1 ∨ v = 2 ∨ v = 3 by omega) with rfl | rfl | rfl | rfl <;> rfl
def PicJ (n : Nat) (d l : Addr) (news base : List (Addr × Obj)) (i : Nat) (ys : List Value) (nx : List (Addr × Obj)) : Prop :=
  ∃ (ps : List Pic) (mixed : Int) (t : Tok) (n1 : Nat) (vals : List Value) (cells : List Int) (n2 : Nat) (tl : List (Addr × Obj)), ys.length = i ∧
    nx = (d, listOf [Value.ref l, Value.int mixed t].toArray n1) :: (l, listOf vals.toArray n2) :: (tl ++ base) ∧ DatAll tl ys (ps.map Pic.dat) ∧ (∀ p ∈ ps, Ok 3 n p) ∧
    Over base tl ∧ (∀ q ∈ tl, q.1 ≠ d) ∧ (∀ q ∈ tl, q.1 ≠ l) ∧ IntsAre vals cells ∧ CellsOk cells ∧ 0 ≤ mixed ∧ mixed < 2147483647
theorem picJ_start {n : Nat} {d l : Addr} {news base : List (Addr × Obj)} {mixed : Int} {t : Tok} {n1 n2 : Nat} {vals : List Value} {cells : List Int} (hI : IntsAre vals cells) (hc : CellsOk cells) (h0 : 0 ≤ mixed) (h1 : mixed < 2147483647) :
    PicJ n d l news base 0 [] ((d, listOf [Value.ref l, Value.int mixed t].toArray n1) :: (l, listOf vals.toArray n2) :: base) :=
  ⟨[], mixed, t, n1, vals, cells, n2, [], rfl, rfl, .nil, fun _ h => (nomatch h), fun _ h => (nomatch h), fun _ h => (nomatch h), fun _ h => (nomatch h), hI, hc, h0, h1⟩
theorem picJ_next {n : Nat} {d l : Addr} {news base tl tl9 : List (Addr × Obj)} {mixed : Int} {t : Tok} {n1 n2 i : Nat} {vals : List Value} {cells : List Int} {ys : List Value} {ps : List Pic} {y : Value} {pic : Pic} {dl : List (Addr × Obj)}
    (hlen : ys.length = i) (hall : DatAll tl ys (ps.map Pic.dat)) (hoks : ∀ p ∈ ps, Ok 3 n p) (hov : Over base tl) (htd : ∀ q ∈ tl, q.1 ≠ d) (htl : ∀ q ∈ tl, q.1 ≠ l)
    (hd9 : DatIn tl9 y pic.dat) (ho9 : Ok 3 n pic) (hv9 : Over dl tl9) (hb : ∀ p ∈ base, p ∈ dl) (htd9 : ∀ q ∈ tl9, q.1 ≠ d) (htl9 : ∀ q ∈ tl9, q.1 ≠ l) (hI : IntsAre vals cells) (hc : CellsOk cells) (h0 : 0 ≤ mixed) (h1 : mixed < 2147483647) :
    PicJ n d l news base (i + 1) (ys ++ [y]) ((d, listOf [Value.ref l, Value.int mixed t].toArray n1) :: (l, listOf vals.toArray n2) :: (tl9 ++ (tl ++ base))) := by
  refine ⟨ps ++ [pic], mixed, t, n1, vals, cells, n2, tl9 ++ tl, by rw [List.length_append, hlen]; rfl, by rw [List.append_assoc], ?_, ?_, Over.app (hv9.sub hb) hov, ?_, ?_, hI, hc, h0, h1⟩
  · rw [List.map_append]
    refine DatAll.append (hall.mono fun p hp => List.mem_append.mpr (.inr hp)) (.cons (hd9.mono fun p hp => List.mem_append.mpr (.inl hp)) .nil)
  · intro p hp
    rcases List.mem_append.mp hp with hp | hp
    · exact hoks p hp
    · rw [List.mem_singleton.mp hp]; exact ho9
  · intro q hq
    rcases List.mem_append.mp hq with hq | hq
    · exact htd9 q hq
    · exact htd q hq
  · intro q hq
    rcases List.mem_append.mp hq with hq | hq
    · exact htl9 q hq
    · exact htl q hq
theorem vec_len {news : List (Addr × Obj)} {ys : List Value} {ps : List Pic} {v : Int} (h : DatAll news ys (ps.map Pic.dat)) (hl : ys.length = v.toNat) (hv : v < 4) : ps.length ≤ 3 := by
  have := h.length
  rw [List.length_map] at this
  omega
theorem tupsz {ys : List Value} {v : Int} (h : ys.length = v.toNat) (hv : v < 4) : ys.toArray.size ≤ 16384 := by rw [List.size_toArray]; omega
theorem units_te {un n R : Nat} (h : un + (20 * (n + 1) + 500) < R) : un + 3 + 64 < R := by omega
theorem ret_ledger {D C : Addr × Obj} {nw nw1 nw2 imm TL : List (Addr × Obj)} {h₀ h : Heap} {L : Addr} (N : News h₀ L h nw) (p1 : Pick D nw nw1) (p2 : Pick C nw1 nw2) (tl : Tail imm nw2 TL) : News h₀ L h (D :: C :: (TL ++ imm)) :=
  tl.eq ▸ p1.news2 p2 N
theorem mk_strE {news : List (Addr × Obj)} {a : Addr} {n : Nat} {t0 t1 : Tok} {x : Str} (k : Int) (h : (a, tupOf [.str (Str.ofString "string") t0, .str x t1] n) ∈ news) (hx : x = abS k) : DatIn news (.ref a) (Pic.str k).dat := by
  subst hx; exact mk_str h
theorem ret_dat {imm r TL : List (Addr × Obj)} {v : Value} {x : Dat} (tl : Tail imm r TL) (h : DatIn r v x) : DatIn (TL ++ imm) v x := tl.eq ▸ h
theorem all_nil {news : List (Addr × Obj)} : DatAll news [] (List.map Pic.dat []) := .nil
theorem all_cons {news : List (Addr × Obj)} {v : Value} {p : Pic} {vs : List Value} {ps : List Pic} (h : DatIn news v p.dat) (t : DatAll news vs (ps.map Pic.dat)) : DatAll news (v :: vs) ((p :: ps).map Pic.dat) := .cons h t
theorem tail_sub {imm r t : List (Addr × Obj)} (h : Tail imm r t) : ∀ p ∈ imm, p ∈ r := fun p hp => h.eq ▸ List.mem_append.mpr (.inr hp)
section
variable {prog : Program} {w : World} {p : Program} {loose : List Str} {mean : ExcName → Option Value} {mg mb : Str → Option Value}
variable {A : Around} {dp un : Nat} {gd : Option (List Code)} {cn : Str} {cs : Scope} {a : Addr} {ccd : Value} {cl : List (Str × Addr)} {outer : List Env} {A₀ : Around} {base h₀ : Heap} {L : Addr} {m : Str → Option Value} {news : List (Addr × Obj)} {s : Shared} {Q E : Value → Shared → Prop}
theorem draw_use {d l : Addr} {mixed : Int} {t tm : Tok} {n1 n2 : Nat} {vals : List Value} {cells : List Int} {many : Int} {nw nw1 : List (Addr × Obj)}
    (B : Below A₀ base outer h₀) (F : Fr h₀ L s.heap m) (X : (Mine.hd.heap_39 w.params).In h₀)
    (N : News h₀ L s.heap nw) (p1 : Pick (d, listOf [Value.ref l, Value.int mixed t].toArray n1) nw nw1) (p2 : Pick (l, listOf vals.toArray n2) nw1 news)
    (T : Top p loose mean mg mb h₀) (hk : cs.kind = .function) (hd : dp + 1 < recursionLimit) (hu : un + 200 < cLine)
    (hdl : @Ne Nat d l) (hod : ∀ p ∈ news, p.1 ≠ d) (hol : ∀ p ∈ news, p.1 ≠ l)
    (hI : IntsAre vals cells) (hc : CellsOk cells) (hm0 : 0 ≤ mixed) (hm1 : mixed < 2147483647) (h1 : 1 ≤ many) (h2 : many < 100)
    (ret : ∀ (v : Int) tv mixed' t' n1' vals' cells' n2' h' tk', 0 ≤ v → v < many → IntsAre vals' cells' → CellsOk cells' → 0 ≤ mixed' → mixed' < 2147483647 →
      Fr h₀ L h' m → News h₀ L h' ((d, listOf [Value.ref l, Value.int mixed' t'].toArray n1') :: (l, listOf vals'.toArray n2') :: news) → Q (.int v tv) { s with heap := h', toks := tk' }) :
    wpAny (model prog w) (ktrTop dp un gd cn cs L a ccd cl outer) (call (.ref 451) [.ref d, .int many tm]) Q E s :=
  draw_call B F X (p1.news2 p2 N) T hk hd hu hdl hod hol hI hc hm0 hm1 h1 h2 ret
theorem compRest_ind {env : Env} {elt : Expr} {x : Str} {scope : Scope} {cl' : List (Str × Addr)} {S : List (Addr × Obj) → Prop} {P : Nat → Value → Prop} {Fin : List Value → List (Addr × Obj) → Prop} {s : Shared} (K : Nat) (J : Nat → List Value → List (Addr × Obj) → Prop)
    (step : ∀ i ys nx, i < K → J i ys nx → ∀ v I oI C oC D m₂ h tk (E' : Value → Shared → Prop), P i v → LCg.NsObj oC m₂ → m₂ x = some v → Fr h₀ L h m → News h₀ L h ((I, oI) :: (C, oC) :: (D, LCg.lst ys) :: nx) → LCg.Off3 I C D nx → ((@Ne Nat I C) ∧ (@Ne Nat I D) ∧ (@Ne Nat C D)) →
      wpAny (model prog w) A (eval elt (compEnvC scope cl' C env)) (LCg.CompEnd h₀ L m { s with heap := h, toks := tk } I oI C oC D (LCg.lst ys) S (fun y news' => J (i + 1) (ys ++ [y]) news')) E' { s with heap := h, toks := tk })
    (fin : ∀ ys nx, J K ys nx → Fin ys nx) : ∀ (k i : Nat) (ys : List Value) (nx : List (Addr × Obj)), i + k = K → J i ys nx → LCg.CompRest prog w A h₀ L m env elt x scope cl' s S P Fin k i ys nx := by
  intro k
  induction k with
  | zero =>
    intro i ys nx hi hj
    have : i = K := by omega
    subst this
    exact LCg.CompRest.zero (fin ys nx hj)
  | succ k ih =>
    intro i ys nx hi hj
    refine LCg.CompRest.succ fun v I oI C oC D m₂ h tk E' h1 h2 h3 h4 h5 h6 h7 => ?_
    refine wpAny_mono (step i ys nx (by omega) hj v I oI C oC D m₂ h tk E' h1 h2 h3 h4 h5 h6 h7) (fun y s₂ h => ?_) fun _ _ x => x
    obtain ⟨h', tk', news', e, F, N, off, hS, r⟩ := h
    exact ⟨h', tk', news', e, F, N, off, hS, ih (i + 1) _ _ (by omega) r⟩
theorem comp_pic {env : Env} {elt : Expr} {x : Str} {scope : Scope} {cl' : List (Str × Addr)} {S : List (Addr × Obj) → Prop} {P : Nat → Value → Prop} {Fin : List Value → List (Addr × Obj) → Prop} {s : Shared} {K n : Nat} {d l : Addr} {ns base : List (Addr × Obj)} {mixed : Int} {t : Tok} {n1 n2 : Nat} {vals : List Value} {cells : List Int}
    (hI : IntsAre vals cells) (hc : CellsOk cells) (h0 : 0 ≤ mixed) (h1 : mixed < 2147483647)
    (step : ∀ i ys nx, i < K → PicJ n d l ns base i ys nx → ∀ v I oI C oC D m₂ h tk (E' : Value → Shared → Prop), P i v → LCg.NsObj oC m₂ → m₂ x = some v → Fr h₀ L h m → News h₀ L h ((I, oI) :: (C, oC) :: (D, LCg.lst ys) :: nx) → LCg.Off3 I C D nx → ((@Ne Nat I C) ∧ (@Ne Nat I D) ∧ (@Ne Nat C D)) →
      wpAny (model prog w) A (eval elt (compEnvC scope cl' C env)) (LCg.CompEnd h₀ L m { s with heap := h, toks := tk } I oI C oC D (LCg.lst ys) S (fun y news' => PicJ n d l ns base (i + 1) (ys ++ [y]) news')) E' { s with heap := h, toks := tk })
    (fin : ∀ ys nx, PicJ n d l ns base K ys nx → Fin ys nx) :
    LCg.CompRest prog w A h₀ L m env elt x scope cl' s S P Fin K 0 [] ((d, listOf [Value.ref l, Value.int mixed t].toArray n1) :: (l, listOf vals.toArray n2) :: base) :=
  compRest_ind K (PicJ n d l ns base) step fin K 0 [] _ (Nat.zero_add _) (picJ_start hI hc h0 h1)
theorem sub3 {value slice : Expr} {Q : Value → Shared → Prop} {ax : Addr} {n : Nat} {k : Int} {u : Tok} {x0 x1 x2 : Value} (N : News h₀ L s.heap news) (hm : (ax, listOf [x0, x1, x2].toArray n) ∈ news) (h0 : 0 ≤ k) (h3 : k < 3)
    (q0 : k = 0 → Q x0 s) (q1 : k = 1 → Q x1 s) (q2 : k = 2 → Q x2 s)
    (hs : subscripted slice false (.ref ax) (.int k u) = operate [.ref ax, .int k u] (getItem (.ref ax) (.int k u)) := by with_unfolding_all rfl) :
    wpAny (model prog w) A (subscriptTail value slice (.ref ax) (.int k u)) Q E s := by
  have hL := PySem.IsL.isList (n := n) (N _ hm).1
  rcases (show k = 0 ∨ k = 1 ∨ k = 2 by omega) with rfl | rfl | rfl
  · exact tail_any hL.typeIs slot_list_getitem.lookup (wpAny_getItem_list hL (by decide) (by decide) rfl (q0 rfl)) hs
  · exact tail_any hL.typeIs slot_list_getitem.lookup (wpAny_getItem_list hL (by decide) (by decide) rfl (q1 rfl)) hs
  · exact tail_any hL.typeIs slot_list_getitem.lookup (wpAny_getItem_list hL (by decide) (by decide) rfl (q2 rfl)) hs
theorem sub2 {value slice : Expr} {Q : Value → Shared → Prop} {ax : Addr} {n : Nat} {k : Int} {u : Tok} {x0 x1 : Value} (N : News h₀ L s.heap news) (hm : (ax, listOf [x0, x1].toArray n) ∈ news) (h0 : 0 ≤ k) (h3 : k < 2)
    (q0 : k = 0 → Q x0 s) (q1 : k = 1 → Q x1 s)
    (hs : subscripted slice false (.ref ax) (.int k u) = operate [.ref ax, .int k u] (getItem (.ref ax) (.int k u)) := by with_unfolding_all rfl) :
    wpAny (model prog w) A (subscriptTail value slice (.ref ax) (.int k u)) Q E s := by
  have hL := PySem.IsL.isList (n := n) (N _ hm).1
  rcases (show k = 0 ∨ k = 1 by omega) with rfl | rfl
  · exact tail_any hL.typeIs slot_list_getitem.lookup (wpAny_getItem_list hL (by decide) (by decide) rfl (q0 rfl)) hs
  · exact tail_any hL.typeIs slot_list_getitem.lookup (wpAny_getItem_list hL (by decide) (by decide) rfl (q1 rfl)) hs
theorem kqdOk_up {d : Dat} {k k' : Nat} (hk : k ≤ k') (h : kqdOk k d = true) : kqdOk k' d = true := by
  induction d using Dat.rec (motive_2 := fun ds => ∀ d ∈ ds, ∀ (k k' : Nat), k ≤ k' → kqdOk k d = true → kqdOk k' d = true) generalizing k k' with
  | none => cases k' <;> simp [kqdOk]
  | bool b => cases k <;> simp [kqdOk] at h
  | int i => cases k' <;> simp [kqdOk]
  | str x => cases k <;> cases k' <;> simpa [kqdOk] using h
  | bytes b => cases k <;> simp [kqdOk] at h
  | tuple ds ih =>
    cases k with
    | zero => simp [kqdOk] at h
    | succ k =>
      obtain ⟨j, rfl⟩ : ∃ j, k' = j + 1 := ⟨k' - 1, by omega⟩
      simp only [kqdOk, List.all_eq_true] at h ⊢
      exact fun d hd => ih d hd k j (by omega) (h d hd)
  | list ds ih =>
    cases k with
    | zero => simp [kqdOk] at h
    | succ k =>
      obtain ⟨j, rfl⟩ : ∃ j, k' = j + 1 := ⟨k' - 1, by omega⟩
      simp only [kqdOk, List.all_eq_true] at h ⊢
      exact fun d hd => ih d hd k j (by omega) (h d hd)
  | nil => exact absurd (by assumption : _ ∈ ([] : List Dat)) (by simp)
  | cons d ds h1 h2 =>
    rename_i e he k k' hk hkk
    rcases List.mem_cons.mp he with rfl | he
    · exact h1 hk hkk
    · exact h2 e he k k' hk hkk
theorem tup_ne_nil {va vb : Addr} {k k' n w' : Nat} {vs : List Value} {ps : List Pic} {Q : Value → Shared → Prop} (N : News h₀ L s.heap news) (ha : (va, tupOf vs k) ∈ news) (hv : DatAll news vs (ps.map Pic.dat)) (hb : (vb, tupOf [] k') ∈ news)
    (ho : ∀ p ∈ ps, Ok w' n p) (hn : n ≤ 20) (hu : A.units + 64 < cLine) (h : Q (.bool (!ps.isEmpty)) s) :
    wpAny (model prog w) A (compareOp .NotEq (.ref va) (.ref vb)) Q E s := by
  have ok1 : kqdOk (2 * n + 2) (.tuple (ps.map Pic.dat)) = true := by
    simp only [kqdOk, List.all_eq_true, List.mem_map]
    rintro d ⟨p, hp, rfl⟩
    exact dat_ok (ho p hp)
  have ok2 : kqdOk (2 * n + 2) (.tuple []) = true := by simp [kqdOk]
  obtain ⟨as, ra⟩ := kqd_in N _ (.tuple ha hv) ok1
  obtain ⟨bs, rb⟩ := kqd_in N _ (.tuple hb .nil) ok2
  have la := kqd_lay _ _ ok1
  have lb := kqd_lay _ _ ok2
  have e : PyData.eqv (kqdP (.tuple (ps.map Pic.dat))) (kqdP (.tuple [])) = ps.isEmpty := by
    cases ps <;> simp [kqdP, kqdPs, PyData.eqv, PyData.eqvAll]
  refine ne_dataH ra rb ?_ ?_ hu (by rw [e]; exact h)
  · unfold SeqAt.shaped; rw [la.1, Bool.true_and]; exact decide_eq_true (Nat.le_trans la.2 (by omega))
  · unfold SeqAt.shaped; rw [lb.1, Bool.true_and]; exact decide_eq_true (Nat.le_trans lb.2 (by omega))
theorem tup_item0 {value slice : Expr} {Q : Value → Shared → Prop} {ax : Addr} {n : Nat} {u : Tok} {x : Value} {rest : List Value} (N : News h₀ L s.heap news) (hm : (ax, tupOf (x :: rest) n) ∈ news) (h : Q x s)
    (hs : subscripted slice false (.ref ax) (.int 0 u) = operate [.ref ax, .int 0 u] (getItem (.ref ax) (.int 0 u)) := by with_unfolding_all rfl) :
    wpAny (model prog w) A (subscriptTail value slice (.ref ax) (.int 0 u)) Q E s :=
  item_tupleT (j := 0) (News.isTup N hm) (by decide) (by decide) (by simp [seqIndex?]) rfl h hs
theorem eq_str_ne {x y : Str} {t u : Tok} {Q : Value → Shared → Prop} (hne : x ≠ y) (h : Q (.bool false) s) : wpAny (model prog w) A (compareOp .Eq (.str x t) (.str y u)) Q E s :=
  PyProof.Rows.eq_str (by rw [beq_eq_false_iff_ne.mpr hne]; exact h)
theorem compEnd_pick {oI oC oD : Obj} {I C D : Addr} {s₁ : Shared} {S : List (Addr × Obj) → Prop} {rest : Value → List (Addr × Obj) → Prop} {y : Value} {h' : Heap} {tk : Nat} {all r1 r2 news' : List (Addr × Obj)}
    (F : Fr h₀ L h' m) (N : News h₀ L h' all) (pI : Pick (I, oI) all r1) (pC : Pick (C, oC) r1 r2) (pD : Pick (D, oD) r2 news')
    (off : ∀ p ∈ news', p.1 ≠ I ∧ p.1 ≠ C ∧ p.1 ≠ D) (hS : S news') (r : rest y news') :
    LCg.CompEnd h₀ L m s₁ I oI C oC D oD S rest y { s₁ with heap := h', toks := tk } :=
  LCg.CompEnd.intro F (pI.news3 pC pD N) news' (fun _ h => h) (LCg.Off3.of off) hS r
end
section
local macro_rules | `(tactic| walk_at $s:str) => `(tactic| k_extra $s)
local macro_rules | `(tactic| k_room) => `(tactic| ktr_room)
local macro_rules | `(tactic| k_units) => `(tactic| ktr_units)
local macro_rules | `(tactic| ke_room) => `(tactic| ktr_units)
local macro_rules | `(tactic| k_all) => `(tactic| first | assumption | ((with_reducible refine List.forall_mem_append.mpr ⟨?ka, ?kb⟩); (case ka => k_all); (case kb => k_all)))
local macro_rules | `(tactic| k_mem) => `(tactic| ((repeat' (first | (with_reducible exact mem_h) | (with_reducible refine mem_t ?_) | (with_reducible refine mem_r ?_) | (with_reducible assumption))); done))
def PictureC (prog : Program) (w : World) (p : Program) (loose : List Str) (mean : ExcName → Option Value) (mg mb : Str → Option Value) (n : Nat) : Prop :=
  ∀ {dp un : Nat} {gd : Option (List Code)} {cn : Str} {cs : Scope} {a : Addr} {ccd : Value} {cl : List (Str × Addr)} {outer : List Env} {A₀ : Around} {base h₀ : Heap} {L : Addr} {m : Str → Option Value} {news : List (Addr × Obj)} {s : Shared} {Q E : Value → Shared → Prop}
    {d l : Addr} {mixed : Int} {t tm : Tok} {n1 n2 : Nat} {vals : List Value} {cells : List Int} {deep : Int} {nw nw1 : List (Addr × Obj)},
    Below A₀ base outer h₀ → Fr h₀ L s.heap m → (Mine.hd.heap_39 w.params).In h₀ →
    News h₀ L s.heap nw → Pick (d, listOf [Value.ref l, Value.int mixed t].toArray n1) nw nw1 → Pick (l, listOf vals.toArray n2) nw1 news →
    Top p loose mean mg mb h₀ → cs.kind = .function → dp + (n + 4) < recursionLimit → un + (20 * n + 300) < cLine →
    @Ne Nat d l → (∀ p ∈ news, p.1 ≠ d) → (∀ p ∈ news, p.1 ≠ l) →
    IntsAre vals cells → CellsOk cells → 0 ≤ mixed → mixed < 2147483647 → deep = (n : Int) →
    (∀ (r : Value) (pic : Pic) mixed' t' n1' vals' cells' n2' tl h' tk', Ok 3 n pic → DatIn tl r pic.dat → Over news tl → (∀ q ∈ tl, q.1 ≠ d) → (∀ q ∈ tl, q.1 ≠ l) → IntsAre vals' cells' → CellsOk cells' → 0 ≤ mixed' → mixed' < 2147483647 →
      Fr h₀ L h' m → News h₀ L h' ((d, listOf [Value.ref l, Value.int mixed' t'].toArray n1') :: (l, listOf vals'.toArray n2') :: (tl ++ news)) → Q r { s with heap := h', toks := tk' }) →
    wpAny (model prog w) (ktrTop dp un gd cn cs L a ccd cl outer) (call (.ref 463) [.ref d, .int deep tm]) Q E s
theorem ite_constsB {prog : Program} {w : World} {A : Around} {E : Value → Shared → Prop} {s : Shared} {env : Env} {Q : Value → Shared → Prop} {c : Prop} [Decidable c] {c1 c2 : Int} {k1 k2 : Nat} {p1 p2 : Pos} (h : ∀ v : Int, (c ∧ v = c1) ∨ (¬ c ∧ v = c2) → Q (.int v s.toks) { s with toks := s.toks + 1 }) :
    if decide c = true then wpAny (model prog w) A (eval (.Constant (.int c1) k1 p1) env) Q E s else wpAny (model prog w) A (eval (.Constant (.int c2) k2 p2) env) Q E s := by
  by_cases hc : c
  · rw [if_pos (decide_eq_true hc)]; exact wpAny_Constant_int (h _ (.inl ⟨hc, rfl⟩))
  · rw [if_neg (fun e => hc (of_decide_eq_true e))]; exact wpAny_Constant_int (h _ (.inr ⟨hc, rfl⟩))
section
variable {prog : Program} {w : World} {A : Around} {E : Value → Shared → Prop} {s : Shared} {h₀ : Heap} {L : Addr} {m : Str → Option Value} {news : List (Addr × Obj)} {Q : Value → Shared → Prop}
theorem in_234 {t : Addr} {items : Array Value} {x : Int} {u : Tok} (ht : IsTup s.heap t items) (hi : IntsAre items.toList [2, 3, 4]) (h : Q (.bool (decide (2 ≤ x ∧ x ≤ 4))) s) : wpAny (model prog w) A (compareOp .In (.int x u) (.ref t)) Q E s :=
  in_tuple_ints ht hi (by
    have e : ([2, 3, 4] : List Int).any (· == x) = decide (2 ≤ x ∧ x ≤ 4) := by
      rw [Bool.eq_iff_iff]; simp; omega
    rw [e]; exact h)
theorem menu3 {value slice : Expr} {ax : Addr} {n : Nat} {k : Int} {u ta tb tc : Tok} {a b c : Str} (N : News h₀ L s.heap news) (hm : (ax, listOf [.str a ta, .str b tb, .str c tc].toArray n) ∈ news) (h0 : 0 ≤ k) (h3 : k < 3)
    (h : ∀ x t, (x = a ∨ x = b ∨ x = c) → Q (.str x t) s)
    (hs : subscripted slice false (.ref ax) (.int k u) = operate [.ref ax, .int k u] (getItem (.ref ax) (.int k u)) := by with_unfolding_all rfl) :
    wpAny (model prog w) A (subscriptTail value slice (.ref ax) (.int k u)) Q E s :=
  sub3 N hm h0 h3 (fun _ => h _ _ (.inl rfl)) (fun _ => h _ _ (.inr (.inl rfl))) (fun _ => h _ _ (.inr (.inr rfl))) hs
end
theorem room_n {dp n R : Nat} (hk : n = (n - 1) + 1) (h : dp + (n + 4) < R) : dp + 1 + (n - 1 + 4) < R := by omega
theorem units_n {un n R : Nat} (hk : n = (n - 1) + 1) (h : un + (20 * n + 300) < R) : un + 3 + (20 * (n - 1) + 300) < R := by omega
theorem ok_pairN {n : Nat} {p q : Pic} (hk : n = (n - 1) + 1) (h : Ok 3 (n - 1) p) (h' : Ok 3 (n - 1) q) : Ok 3 n (.pair p q) := by rw [hk]; exact .pair h h'
theorem ok_vecN {n : Nat} {ps : List Pic} (hk : n = (n - 1) + 1) (hl : ps.length ≤ 3) (h : ∀ p ∈ ps, Ok 3 (n - 1) p) : Ok 3 n (.vec ps) := by rw [hk]; exact .vec hl h
section
variable {prog : Program} {w : World} {p : Program} {loose : List Str} {mean : ExcName → Option Value} {mg mb : Str → Option Value}
set_option maxHeartbeats 4000000 in
theorem picture_some (n : Nat) (IH : ∀ k, n = k + 1 → PictureC prog w p loose mean mg mb k) : PictureC prog w p loose mean mg mb n := by
  w_top off
  k_with_none
  (k_with "call ref" => (
  k_here
  (with_reducible show wpAny _ _ (call (Value.ref 451) _) _ _ _)
  k_dflt (
  refine' draw_use ?kB ?kF ?kX ?kN ?p1 ?p2 ?kT ?kk ?kd ?ku ?dl ?od ?ol ?I ?c ?m0 ?m1 ?h1 ?h2 ?_
  (case kB => k_asm)
  (case kF => k_asm)
  (case kX => k_asm)
  (case kN => k_asm)
  (case kT => k_asm)
  (case p1 => ((repeat' (first | (with_reducible exact Pick.head) | (with_reducible refine' Pick.tail ?_) | (with_reducible refine' Pick.app ?_))); done))
  (case p2 => ((repeat' (first | (with_reducible exact Pick.head) | (with_reducible refine' Pick.tail ?_) | (with_reducible refine' Pick.app ?_))); done))
  (case kk => first | exact rfl | assumption)
  (case kd => first | exact room_d (by with_reducible assumption) | ktr_room)
  (case ku => first | exact units_d (by with_reducible assumption) | ktr_units)
  (case dl => assumption)
  (case od => (repeat' (first | (with_reducible assumption) | exact List.forall_mem_nil _ | (with_reducible refine List.forall_mem_cons.mpr ⟨?_, ?_⟩) | (with_reducible refine List.forall_mem_append.mpr ⟨?_, ?_⟩) | (first | exact gt_ne (by with_reducible assumption) | exact off_I (by with_reducible assumption) (by (repeat' (first | (with_reducible exact mem_h) | (with_reducible refine mem_t ?_) | (with_reducible refine mem_r ?_)))) | exact off_C (by with_reducible assumption) (by (repeat' (first | (with_reducible exact mem_h) | (with_reducible refine mem_t ?_) | (with_reducible refine mem_r ?_)))) | exact off_D (by with_reducible assumption) (by (repeat' (first | (with_reducible exact mem_h) | (with_reducible refine mem_t ?_) | (with_reducible refine mem_r ?_)))) | exact off_1 (by with_reducible assumption) (by (repeat' (first | (with_reducible exact mem_h) | (with_reducible refine mem_t ?_) | (with_reducible refine mem_r ?_)))) | k_ne) | assumption)))
  (case ol => (repeat' (first | (with_reducible assumption) | exact List.forall_mem_nil _ | (with_reducible refine List.forall_mem_cons.mpr ⟨?_, ?_⟩) | (with_reducible refine List.forall_mem_append.mpr ⟨?_, ?_⟩) | (first | exact gt_ne (by with_reducible assumption) | exact off_I (by with_reducible assumption) (by (repeat' (first | (with_reducible exact mem_h) | (with_reducible refine mem_t ?_) | (with_reducible refine mem_r ?_)))) | exact off_C (by with_reducible assumption) (by (repeat' (first | (with_reducible exact mem_h) | (with_reducible refine mem_t ?_) | (with_reducible refine mem_r ?_)))) | exact off_D (by with_reducible assumption) (by (repeat' (first | (with_reducible exact mem_h) | (with_reducible refine mem_t ?_) | (with_reducible refine mem_r ?_)))) | exact off_1 (by with_reducible assumption) (by (repeat' (first | (with_reducible exact mem_h) | (with_reducible refine mem_t ?_) | (with_reducible refine mem_r ?_)))) | k_ne) | assumption)))
  (case I => assumption)
  (case c => assumption)
  (case m0 => assumption)
  (case m1 => assumption)
  (case h1 => first | decide | omega)
  (case h2 => first | decide | omega)
  k_whole
  intro v9 tv9 mixed' t' n1' vals' cells' n2' h' tk' hv0 hv1 hI' hc' hm0' hm1' F' N'
  (try k_sweep)
  skip
  all_goals ((try dsimp only); (try k_fold)))))
  (k_with "newList" => (k_here; k_dflt (refine' newList_K ?k1 ?k2 ?_; (case k1 => k_asm); (case k2 => k_asm); k_whole); intro l' h' F' N' l1; (try k_lt l1); (iterate 24 (try (obtain ⟨_, l1⟩ := l1))); (try k_sweep)))
  (k_with "newTuple" => (k_here; k_dflt (refine' kup_newTuple ?F ?N ?_ ?z; (case F => k_asm); (case N => k_asm); (case z => kmk_size)); intro D' h' F' N' l1; (try k_lt l1); (iterate 24 (try (obtain ⟨_, l1⟩ := l1))); (try k_sweep)))
  (k_with "ite" => ((with_reducible refine ite_constsB ?_); intro m9 hm9))
  (k_with "compareOp In int ref" => (k_here; k_dflt (refine' in_234 (News.isTup ?N mem_h) (.cons _ _ (.cons _ _ (.cons _ _ .nil))) ?_; (case N => k_asm))))
  (k_with "subscriptTail" => (k_here; (with_reducible show wpAny _ _ (subscriptTail _ _ (Value.ref _) (Value.int _ _)) _ _ _); k_dflt (refine' menu3 ?N ?m ?h0 ?h3 ?_; (case N => k_asm); (case m => ((repeat' (first | (with_reducible exact mem_h) | (with_reducible refine mem_t ?_) | (with_reducible assumption) | (with_reducible exact mem_l (by with_reducible assumption)) | (with_reducible refine mem_r ?_))); done)); (case h0 => omega); (case h3 => omega); intro x9 tx9 hx9)))
  (k_with "subscriptTail" => (k_here; (with_reducible show wpAny _ _ (subscriptTail _ _ (Value.ref _) (Value.int v9 _)) _ _ _); have hs9 := split2 hv0 hv1; rcases hs9 with hs9 | hs9 <;> subst hs9))
  (k_with "subscriptTail" => (k_here; (with_reducible show wpAny _ _ (subscriptTail _ _ (Value.str _ _) _) _ _ _); have hs9 := split3 hv0 hv1; rcases hs9 with hs9 | hs9 | hs9 <;> subst hs9))
  (k_with "call ref" => (
  k_here
  (with_reducible show wpAny _ _ (call (Value.ref 463) _) _ _ _)
  k_dflt (first | (have hh9 := IH9; clear hh9) | ((have hk9 : n = (n - 1) + 1 := (by omega)); (have IH9 := @IH (n - 1) hk9)))
  k_dflt (
  refine' IH9 ?kB ?kF ?kX ?kN ?p1 ?p2 ?kT ?kk ?kd ?ku ?dl ?od ?ol ?I ?c ?m0 ?m1 ?deep ?_
  (case kB => k_asm)
  (case kF => k_asm)
  (case kX => k_asm)
  (case kN => k_asm)
  (case kT => k_asm)
  (case p1 => ((repeat' (first | (with_reducible exact Pick.head) | (with_reducible refine' Pick.tail ?_) | (with_reducible refine' Pick.app ?_))); done))
  (case p2 => ((repeat' (first | (with_reducible exact Pick.head) | (with_reducible refine' Pick.tail ?_) | (with_reducible refine' Pick.app ?_))); done))
  (case kk => first | exact rfl | assumption)
  (case kd => first | exact room_n hk9 (by with_reducible assumption))
  (case ku => first | exact units_n hk9 (by with_reducible assumption))
  (case dl => assumption)
  (case od => (repeat' (first | (with_reducible assumption) | exact List.forall_mem_nil _ | (with_reducible refine List.forall_mem_cons.mpr ⟨?_, ?_⟩) | (with_reducible refine List.forall_mem_append.mpr ⟨?_, ?_⟩) | (first | exact gt_ne (by with_reducible assumption) | exact off_I (by with_reducible assumption) (by (repeat' (first | (with_reducible exact mem_h) | (with_reducible refine mem_t ?_) | (with_reducible refine mem_r ?_)))) | exact off_C (by with_reducible assumption) (by (repeat' (first | (with_reducible exact mem_h) | (with_reducible refine mem_t ?_) | (with_reducible refine mem_r ?_)))) | exact off_D (by with_reducible assumption) (by (repeat' (first | (with_reducible exact mem_h) | (with_reducible refine mem_t ?_) | (with_reducible refine mem_r ?_)))) | exact off_1 (by with_reducible assumption) (by (repeat' (first | (with_reducible exact mem_h) | (with_reducible refine mem_t ?_) | (with_reducible refine mem_r ?_)))) | k_ne) | assumption)))
  (case ol => (repeat' (first | (with_reducible assumption) | exact List.forall_mem_nil _ | (with_reducible refine List.forall_mem_cons.mpr ⟨?_, ?_⟩) | (with_reducible refine List.forall_mem_append.mpr ⟨?_, ?_⟩) | (first | exact gt_ne (by with_reducible assumption) | exact off_I (by with_reducible assumption) (by (repeat' (first | (with_reducible exact mem_h) | (with_reducible refine mem_t ?_) | (with_reducible refine mem_r ?_)))) | exact off_C (by with_reducible assumption) (by (repeat' (first | (with_reducible exact mem_h) | (with_reducible refine mem_t ?_) | (with_reducible refine mem_r ?_)))) | exact off_D (by with_reducible assumption) (by (repeat' (first | (with_reducible exact mem_h) | (with_reducible refine mem_t ?_) | (with_reducible refine mem_r ?_)))) | exact off_1 (by with_reducible assumption) (by (repeat' (first | (with_reducible exact mem_h) | (with_reducible refine mem_t ?_) | (with_reducible refine mem_r ?_)))) | k_ne) | assumption)))
  (case I => assumption)
  (case c => assumption)
  (case m0 => assumption)
  (case m1 => assumption)
  (case deep => omega)
  k_whole
  intro r9 pic9 mixed9 t9 n9 vals9 cells9 n9' tl9 h9 tk9 hok9 hdat9 hov9 htd9 htl9 hI9 hc9 hm09 hm19 F9 N9
  (try k_sweep)
  (try dsimp only)
  (try k_fold))))
  (k_with "CompRest" => (
  k_here
  k_dflt (refine' comp_pic (n := n - 1) (ns := news) ?hI9 ?hc9 ?h09 ?h19 ?step9 ?fin9)
  (case hI9 => assumption)
  (case hc9 => assumption)
  (case h09 => assumption)
  (case h19 => assumption)
  (rintro i ys nx hlt ⟨ps, mixed', t', n1', vals', cells', n2', tl, hlen, rfl, hall, hoks, hov, htd, htl, hI', hc', hm0', hm1'⟩ v I oI C oC D m₂ h tk E' ⟨tv, rfl⟩ hC hx F9 N9 off9 ne9)
  (rotate_left; rintro ys nx ⟨ps, mixed', t', n1', vals', cells', n2', tl, hlen, rfl, hall, hoks, hov, htd, htl, hI', hc', hm0', hm1'⟩; rotate_right)))
  (k_with "eval ListComp" => (k_here; k_dflt (refine LCg.ListComp_U (F₀ := by k_asm) (by with_unfolding_all rfl) (by decide) (by rfl) (by decide) (by rfl) ?_)))
  (k_with "CompSrc" => (k_here; k_dflt (refine' LCg.CompSrc.range (n := Int.toNat _) ?hh ?F ?N ?r ?sm ?hn ?sz ?_; (case hh => rfl); (case F => k_asm); (case N => k_asm); (case r => assumption); (case sm => (refine' range_small ?a1 ?b1; (case a1 => assumption); (case b1 => assumption))); (case hn => (refine' range_size ?a2 ?b2; (case a2 => assumption); (case b2 => assumption))); (case sz => (refine' range_le ?b3; (case b3 => assumption)))); intro g'))
  (k_with "CompEnd" => (
  k_here
  (rename Fr _ _ _ _ => kF)
  (rename News _ _ _ _ => kN)
  k_dflt (
  refine' compEnd_pick kF kN ?pI ?pC ?pD ?off ?hS ?_
  (case pI => ((repeat' (first | (with_reducible exact Pick.head) | (with_reducible refine' Pick.tail ?_) | (with_reducible refine' Pick.app ?_))); done))
  (case pC => ((repeat' (first | (with_reducible exact Pick.head) | (with_reducible refine' Pick.tail ?_) | (with_reducible refine' Pick.app ?_))); done))
  (case pD => ((repeat' (first | (with_reducible exact Pick.head) | (with_reducible refine' Pick.tail ?_) | (with_reducible refine' Pick.app ?_))); done))
  (case off => ((repeat' (first | exact List.forall_mem_nil _ | (with_reducible refine List.forall_mem_cons.mpr ⟨?_, ?_⟩) | (with_reducible refine List.forall_mem_append.mpr ⟨?_, ?_⟩) | (with_reducible exact mem_h) | (with_reducible refine mem_t ?_) | (with_reducible exact mem_l (by with_reducible assumption)) | (with_reducible refine mem_r ?_) | (with_reducible assumption) | ((with_reducible refine' off3_addr ?h9 ?m9); (case h9 => with_reducible assumption); (case m9 => ((repeat' (first | (with_reducible exact mem_h) | (with_reducible refine mem_t ?_) | (with_reducible assumption) | (with_reducible exact mem_l (by with_reducible assumption)) | (with_reducible refine mem_r ?_))); done))) | ((with_reducible refine' off3_over ?h9 ?a9 ?b9 ?c9); (case h9 => with_reducible assumption); (case a9 => ((repeat' (first | (with_reducible exact mem_h) | (with_reducible refine mem_t ?_) | (with_reducible assumption) | (with_reducible exact mem_l (by with_reducible assumption)) | (with_reducible refine mem_r ?_))); done)); (case b9 => ((repeat' (first | (with_reducible exact mem_h) | (with_reducible refine mem_t ?_) | (with_reducible assumption) | (with_reducible exact mem_l (by with_reducible assumption)) | (with_reducible refine mem_r ?_))); done)); (case c9 => ((repeat' (first | (with_reducible exact mem_h) | (with_reducible refine mem_t ?_) | (with_reducible assumption) | (with_reducible exact mem_l (by with_reducible assumption)) | (with_reducible refine mem_r ?_))); done))) | (intro e9 he9; (with_reducible refine' LCg.Off3.mem ?h9 e9 ?m9); (case h9 => with_reducible assumption); (case m9 => ((repeat' (first | (with_reducible exact he9) | (with_reducible exact mem_l he9) | (with_reducible refine mem_t ?_) | (with_reducible refine mem_r ?_))); done))))); done))
  (case hS => first | exact trivial | lcg_src))))
  (k_with "call type:tuple" => (k_here; k_dflt (refine' kde_tupleOf ?k1 ?k2 ?k3 ?k4 ?k5 ?_; (case k1 => k_asm); (case k2 => k_asm); (case k3 => exact News.isList (by k_asm) (by k_mem)); (case k4 => exact tupsz (by assumption) (by assumption)); (case k5 => exact rfl); k_whole); intro D' h' F' N' l1; (try k_lt l1); (iterate 24 (try (obtain ⟨_, l1⟩ := l1))); (try k_sweep)))
  (k_with "FinE" => ((unfold LCg.FinE); intro D' h' tk' F' N' o1'; have o9 := o1'; (try simp only [LCg.Off1, and_true] at o1'); (try simp only [List.nil_append, List.cons_append] at N'); (try dsimp only)))
  intro dp un gd cn cs a ccd cl outer A₀ base h₀ L m news s Q E d l mixed t tm n1 n2 vals cells deep nw nw1 B F X N p1 p2 T hk hd hu hdl hod hol hI hc hm0 hm1 hdeep ret
  replace N := p1.news2 p2 N
  clear p1 p2
  refine wpAny_call ?_
  k_dflt (refine' code_defC ?k1 ?k2 ?k3 ?k4 ?k5 ?kA ?kF ?kK ?k6 ?k7 ?k8 ?k9 ?kB ?kD ?_ ?c2 ?c3 ?c4; (case kA => exact rfl); (case kF => exact rfl); (case kK => assumption); (case k1 => k_asm); (case k2 => k_asm); (case k3 => k_asm); (case k4 => k_asm); (case k5 => k_asm); (case k6 => k_is); (case k7 => k_is); (case k8 => ktr_room); (case k9 => first | exact BindsTo.of_eq rfl | exact binds_K (by k_in) rfl (by k_is) rfl rfl rfl | fail "k_enter: no rule for these arguments"); (case kB => exact rfl); (case kD => decide +kernel); (case c2 => exact rfl); (case c3 => exact rfl); (case c4 => exact rfl); k_whole; intro g' L' h' tk' cells' FG' F' N' Y' B' X' T' l1; (try k_lt l1); k_cells Y'; (try simp only [List.cons_append, List.nil_append] at N'); (try dsimp only); (try k_lift B'); (try k_fold))
  (with_reducible rename _ ∧ _ => l1e)
  obtain ⟨hdL, hlL, hAL⟩ := l1e
  k_steps
  all_goals first
  | (
        refine' picJ_next hlen hall hoks hov htd htl ?hd9 ?ho9 ?hv9 ?hb9 ?htd9 ?htl9 ?hI9 ?hc9 ?h09 ?h19
        (case hd9 => assumption)
        (case ho9 => assumption)
        (case hv9 => assumption)
        (case hb9 => ((repeat' (first | exact List.forall_mem_nil _ | (with_reducible refine List.forall_mem_cons.mpr ⟨?_, ?_⟩) | (with_reducible refine List.forall_mem_append.mpr ⟨?_, ?_⟩) | (with_reducible exact mem_h) | (with_reducible refine mem_t ?_) | (with_reducible exact mem_l (by with_reducible assumption)) | (with_reducible refine mem_r ?_) | (with_reducible assumption) | (intro e9 he9; ((repeat' (first | (with_reducible exact he9) | (with_reducible exact mem_l he9) | (with_reducible refine mem_t ?_) | (with_reducible refine mem_r ?_))); done)))); done))
        (case htd9 => assumption)
        (case htl9 => assumption)
        (case hI9 => assumption)
        (case hc9 => assumption)
        (case h09 => assumption)
        (case h19 => assumption))
  | (
        have hall9 := hall
        (rename Fr _ _ _ _ => kF)
        (rename News _ _ _ _ => kN)
        (iterate 24 (try ((with_reducible rename _ ∧ _ => hh9); obtain ⟨_, _⟩ := hh9)))
        refine' ret _ _ _ _ _ _ _ _ _ _ _ ?ok ?dat ?over ?od ?ol ?I ?c ?m0 ?m1 kF (ret_ledger kN ?p1 ?p2 ?tl)
        (case p1 => ((repeat' (first | (with_reducible exact Pick.head) | (with_reducible refine' Pick.tail ?_) | (with_reducible refine' Pick.app ?_))); done))
        (case p2 => ((repeat' (first | (with_reducible exact Pick.head) | (with_reducible refine' Pick.tail ?_) | (with_reducible refine' Pick.app ?_))); done))
        (case tl => ((repeat' (first | exact Tail.nil | (with_reducible refine' Tail.cons ?_) | (with_reducible refine' Tail.app ?_))); done))
        (case over => (repeat' (first | exact Over.nil | (with_reducible refine Over.cons ?_ ?_) | (with_reducible refine Over.app ?_ ?_) | exact apart_lt (by with_reducible assumption) | exact apart_lt (over_lt hAL (by omega)) | (intro e9 he9; exact apart_lt (by with_reducible assumption) e9 (by (repeat' (first | with_reducible exact he9 | (with_reducible refine mem_t ?_) | (with_reducible exact mem_l he9) | (with_reducible refine mem_r ?_))))) | (intro e9 he9; exact apart_off (by with_reducible assumption) e9 (by (repeat' (first | with_reducible exact he9 | (with_reducible refine mem_t ?_) | (with_reducible exact mem_l he9) | (with_reducible refine mem_r ?_))))) | (intro q9 hq9 e9 he9; exact (by with_reducible assumption : Over _ _) q9 hq9 e9 (by (repeat' (first | with_reducible exact he9 | (with_reducible refine mem_t ?_) | (with_reducible exact mem_l he9) | (with_reducible refine mem_r ?_))))))))
        (case od => (repeat' (first | (with_reducible assumption) | exact List.forall_mem_nil _ | (with_reducible refine List.forall_mem_cons.mpr ⟨?_, ?_⟩) | (with_reducible refine List.forall_mem_append.mpr ⟨?_, ?_⟩) | (first | exact gt_ne (by with_reducible assumption) | exact off_I (by with_reducible assumption) (by (repeat' (first | (with_reducible exact mem_h) | (with_reducible refine mem_t ?_) | (with_reducible refine mem_r ?_)))) | exact off_C (by with_reducible assumption) (by (repeat' (first | (with_reducible exact mem_h) | (with_reducible refine mem_t ?_) | (with_reducible refine mem_r ?_)))) | exact off_D (by with_reducible assumption) (by (repeat' (first | (with_reducible exact mem_h) | (with_reducible refine mem_t ?_) | (with_reducible refine mem_r ?_)))) | exact off_1 (by with_reducible assumption) (by (repeat' (first | (with_reducible exact mem_h) | (with_reducible refine mem_t ?_) | (with_reducible refine mem_r ?_)))) | k_ne) | assumption)))
        (case ol => (repeat' (first | (with_reducible assumption) | exact List.forall_mem_nil _ | (with_reducible refine List.forall_mem_cons.mpr ⟨?_, ?_⟩) | (with_reducible refine List.forall_mem_append.mpr ⟨?_, ?_⟩) | (first | exact gt_ne (by with_reducible assumption) | exact off_I (by with_reducible assumption) (by (repeat' (first | (with_reducible exact mem_h) | (with_reducible refine mem_t ?_) | (with_reducible refine mem_r ?_)))) | exact off_C (by with_reducible assumption) (by (repeat' (first | (with_reducible exact mem_h) | (with_reducible refine mem_t ?_) | (with_reducible refine mem_r ?_)))) | exact off_D (by with_reducible assumption) (by (repeat' (first | (with_reducible exact mem_h) | (with_reducible refine mem_t ?_) | (with_reducible refine mem_r ?_)))) | exact off_1 (by with_reducible assumption) (by (repeat' (first | (with_reducible exact mem_h) | (with_reducible refine mem_t ?_) | (with_reducible refine mem_r ?_)))) | k_ne) | assumption)))
        (case I => assumption)
        (case c => assumption)
        (case m0 => assumption)
        (case m1 => assumption)
        (case dat => (refine' mk_vec ?hm9 ?hb9 (DatAll.mono ?s9 hall9); (case hm9 => (repeat' (first | (with_reducible exact mem_h) | (with_reducible refine' mem_t ?_) | (with_reducible refine' mem_r ?_)))); (case hb9 => (repeat' (first | (with_reducible exact mem_h) | (with_reducible refine' mem_t ?_) | (with_reducible refine' mem_r ?_)))); (case s9 => ((repeat' (first | exact List.forall_mem_nil _ | (with_reducible refine List.forall_mem_cons.mpr ⟨?_, ?_⟩) | (with_reducible refine List.forall_mem_append.mpr ⟨?_, ?_⟩) | (with_reducible exact mem_h) | (with_reducible refine mem_t ?_) | (with_reducible exact mem_l (by with_reducible assumption)) | (with_reducible refine mem_r ?_) | (with_reducible assumption) | (intro e9 he9; ((repeat' (first | (with_reducible exact he9) | (with_reducible exact mem_l he9) | (with_reducible refine mem_t ?_) | (with_reducible refine mem_r ?_))); done)))); done))))
        (case ok => exact ok_vecN (by omega) (vec_len hall hlen (by assumption)) hoks))
  | ((rcases hx9 with rfl | rfl | rfl) <;> (
      (rename Fr _ _ _ _ => kF)
      (rename News _ _ _ _ => kN)
      (iterate 24 (try ((with_reducible rename _ ∧ _ => hh9); obtain ⟨_, _⟩ := hh9)))
      refine' ret _ _ _ _ _ _ _ _ _ _ _ ?ok ?dat ?over ?od ?ol ?I ?c ?m0 ?m1 kF (ret_ledger kN ?p1 ?p2 ?tl)
      (case p1 => ((repeat' (first | (with_reducible exact Pick.head) | (with_reducible refine' Pick.tail ?_) | (with_reducible refine' Pick.app ?_))); done))
      (case p2 => ((repeat' (first | (with_reducible exact Pick.head) | (with_reducible refine' Pick.tail ?_) | (with_reducible refine' Pick.app ?_))); done))
      (case tl => ((repeat' (first | exact Tail.nil | (with_reducible refine' Tail.cons ?_) | (with_reducible refine' Tail.app ?_))); done))
      (case over => (repeat' (first | exact Over.nil | (with_reducible refine Over.cons ?_ ?_) | (with_reducible refine Over.app ?_ ?_) | exact apart_lt (by with_reducible assumption) | exact apart_lt (over_lt hAL (by omega)) | (intro e9 he9; exact apart_lt (by with_reducible assumption) e9 (by (repeat' (first | with_reducible exact he9 | (with_reducible refine mem_t ?_) | (with_reducible exact mem_l he9) | (with_reducible refine mem_r ?_))))) | (intro e9 he9; exact apart_off (by with_reducible assumption) e9 (by (repeat' (first | with_reducible exact he9 | (with_reducible refine mem_t ?_) | (with_reducible exact mem_l he9) | (with_reducible refine mem_r ?_))))) | (intro q9 hq9 e9 he9; exact (by with_reducible assumption : Over _ _) q9 hq9 e9 (by (repeat' (first | with_reducible exact he9 | (with_reducible refine mem_t ?_) | (with_reducible exact mem_l he9) | (with_reducible refine mem_r ?_))))))))
      (case od => (repeat' (first | (with_reducible assumption) | exact List.forall_mem_nil _ | (with_reducible refine List.forall_mem_cons.mpr ⟨?_, ?_⟩) | (with_reducible refine List.forall_mem_append.mpr ⟨?_, ?_⟩) | (first | exact gt_ne (by with_reducible assumption) | exact off_I (by with_reducible assumption) (by (repeat' (first | (with_reducible exact mem_h) | (with_reducible refine mem_t ?_) | (with_reducible refine mem_r ?_)))) | exact off_C (by with_reducible assumption) (by (repeat' (first | (with_reducible exact mem_h) | (with_reducible refine mem_t ?_) | (with_reducible refine mem_r ?_)))) | exact off_D (by with_reducible assumption) (by (repeat' (first | (with_reducible exact mem_h) | (with_reducible refine mem_t ?_) | (with_reducible refine mem_r ?_)))) | exact off_1 (by with_reducible assumption) (by (repeat' (first | (with_reducible exact mem_h) | (with_reducible refine mem_t ?_) | (with_reducible refine mem_r ?_)))) | k_ne) | assumption)))
      (case ol => (repeat' (first | (with_reducible assumption) | exact List.forall_mem_nil _ | (with_reducible refine List.forall_mem_cons.mpr ⟨?_, ?_⟩) | (with_reducible refine List.forall_mem_append.mpr ⟨?_, ?_⟩) | (first | exact gt_ne (by with_reducible assumption) | exact off_I (by with_reducible assumption) (by (repeat' (first | (with_reducible exact mem_h) | (with_reducible refine mem_t ?_) | (with_reducible refine mem_r ?_)))) | exact off_C (by with_reducible assumption) (by (repeat' (first | (with_reducible exact mem_h) | (with_reducible refine mem_t ?_) | (with_reducible refine mem_r ?_)))) | exact off_D (by with_reducible assumption) (by (repeat' (first | (with_reducible exact mem_h) | (with_reducible refine mem_t ?_) | (with_reducible refine mem_r ?_)))) | exact off_1 (by with_reducible assumption) (by (repeat' (first | (with_reducible exact mem_h) | (with_reducible refine mem_t ?_) | (with_reducible refine mem_r ?_)))) | k_ne) | assumption)))
      (case I => assumption)
      (case c => assumption)
      (case m0 => assumption)
      (case m1 => assumption)
      (case dat => first
          | (refine' mk_num ?hm9; (case hm9 => (repeat' (first | (with_reducible exact mem_h) | (with_reducible refine' mem_t ?_) | (with_reducible refine' mem_r ?_)))))
          | (refine' mk_truth ?hm9; (case hm9 => (repeat' (first | (with_reducible exact mem_h) | (with_reducible refine' mem_t ?_) | (with_reducible refine' mem_r ?_)))))
          | (refine' mk_char ?hm9; (case hm9 => (repeat' (first | (with_reducible exact mem_h) | (with_reducible refine' mem_t ?_) | (with_reducible refine' mem_r ?_)))))
          | (refine' mk_sym ?hm9; (case hm9 => (repeat' (first | (with_reducible exact mem_h) | (with_reducible refine' mem_t ?_) | (with_reducible refine' mem_r ?_)))))
          | (refine' mk_strE 0 ?hm9 ?hx9; (case hm9 => (repeat' (first | (with_reducible exact mem_h) | (with_reducible refine' mem_t ?_) | (with_reducible refine' mem_r ?_)))); (case hx9 => decide +kernel))
          | (refine' mk_strE 1 ?hm9 ?hx9; (case hm9 => (repeat' (first | (with_reducible exact mem_h) | (with_reducible refine' mem_t ?_) | (with_reducible refine' mem_r ?_)))); (case hx9 => decide +kernel))
          | (refine' mk_strE 2 ?hm9 ?hx9; (case hm9 => (repeat' (first | (with_reducible exact mem_h) | (with_reducible refine' mem_t ?_) | (with_reducible refine' mem_r ?_)))); (case hx9 => decide +kernel))
          | (refine' mk_empty ?hm9; (case hm9 => (repeat' (first | (with_reducible exact mem_h) | (with_reducible refine' mem_t ?_) | (with_reducible refine' mem_r ?_)))))
          | (refine' mk_nothing ?hm9; (case hm9 => (repeat' (first | (with_reducible exact mem_h) | (with_reducible refine' mem_t ?_) | (with_reducible refine' mem_r ?_)))))
          | (refine' mk_pair ?hm9 (DatIn.mono ?s1 ?h1) (DatIn.mono ?s2 ?h2); (case hm9 => (repeat' (first | (with_reducible exact mem_h) | (with_reducible refine' mem_t ?_) | (with_reducible refine' mem_r ?_)))); (case h1 => assumption); (case h2 => assumption); (case s1 => ((repeat' (first | exact List.forall_mem_nil _ | (with_reducible refine List.forall_mem_cons.mpr ⟨?_, ?_⟩) | (with_reducible refine List.forall_mem_append.mpr ⟨?_, ?_⟩) | (with_reducible exact mem_h) | (with_reducible refine mem_t ?_) | (with_reducible exact mem_l (by with_reducible assumption)) | (with_reducible refine mem_r ?_) | (with_reducible assumption) | (intro e9 he9; ((repeat' (first | (with_reducible exact he9) | (with_reducible exact mem_l he9) | (with_reducible refine mem_t ?_) | (with_reducible refine mem_r ?_))); done)))); done)); (case s2 => ((repeat' (first | exact List.forall_mem_nil _ | (with_reducible refine List.forall_mem_cons.mpr ⟨?_, ?_⟩) | (with_reducible refine List.forall_mem_append.mpr ⟨?_, ?_⟩) | (with_reducible exact mem_h) | (with_reducible refine mem_t ?_) | (with_reducible exact mem_l (by with_reducible assumption)) | (with_reducible refine mem_r ?_) | (with_reducible assumption) | (intro e9 he9; ((repeat' (first | (with_reducible exact he9) | (with_reducible exact mem_l he9) | (with_reducible refine mem_t ?_) | (with_reducible refine mem_r ?_))); done)))); done))))
      (case ok => first
          | exact .num (by unfold NumOk; omega)
          | exact .truth (by unfold BitOk; omega)
          | exact .char (by unfold BitOk; omega)
          | exact .sym (by unfold BitOk; omega)
          | exact .str (by decide) (by decide)
          | exact .empty
          | exact .nothing
          | exact ok_pairN hk9 (by assumption) (by assumption))))
  | (
      (rename Fr _ _ _ _ => kF)
      (rename News _ _ _ _ => kN)
      (iterate 24 (try ((with_reducible rename _ ∧ _ => hh9); obtain ⟨_, _⟩ := hh9)))
      refine' ret _ _ _ _ _ _ _ _ _ _ _ ?ok ?dat ?over ?od ?ol ?I ?c ?m0 ?m1 kF (ret_ledger kN ?p1 ?p2 ?tl)
      (case p1 => ((repeat' (first | (with_reducible exact Pick.head) | (with_reducible refine' Pick.tail ?_) | (with_reducible refine' Pick.app ?_))); done))
      (case p2 => ((repeat' (first | (with_reducible exact Pick.head) | (with_reducible refine' Pick.tail ?_) | (with_reducible refine' Pick.app ?_))); done))
      (case tl => ((repeat' (first | exact Tail.nil | (with_reducible refine' Tail.cons ?_) | (with_reducible refine' Tail.app ?_))); done))
      (case over => (repeat' (first | exact Over.nil | (with_reducible refine Over.cons ?_ ?_) | (with_reducible refine Over.app ?_ ?_) | exact apart_lt (by with_reducible assumption) | exact apart_lt (over_lt hAL (by omega)) | (intro e9 he9; exact apart_lt (by with_reducible assumption) e9 (by (repeat' (first | with_reducible exact he9 | (with_reducible refine mem_t ?_) | (with_reducible exact mem_l he9) | (with_reducible refine mem_r ?_))))) | (intro e9 he9; exact apart_off (by with_reducible assumption) e9 (by (repeat' (first | with_reducible exact he9 | (with_reducible refine mem_t ?_) | (with_reducible exact mem_l he9) | (with_reducible refine mem_r ?_))))) | (intro q9 hq9 e9 he9; exact (by with_reducible assumption : Over _ _) q9 hq9 e9 (by (repeat' (first | with_reducible exact he9 | (with_reducible refine mem_t ?_) | (with_reducible exact mem_l he9) | (with_reducible refine mem_r ?_))))))))
      (case od => (repeat' (first | (with_reducible assumption) | exact List.forall_mem_nil _ | (with_reducible refine List.forall_mem_cons.mpr ⟨?_, ?_⟩) | (with_reducible refine List.forall_mem_append.mpr ⟨?_, ?_⟩) | (first | exact gt_ne (by with_reducible assumption) | exact off_I (by with_reducible assumption) (by (repeat' (first | (with_reducible exact mem_h) | (with_reducible refine mem_t ?_) | (with_reducible refine mem_r ?_)))) | exact off_C (by with_reducible assumption) (by (repeat' (first | (with_reducible exact mem_h) | (with_reducible refine mem_t ?_) | (with_reducible refine mem_r ?_)))) | exact off_D (by with_reducible assumption) (by (repeat' (first | (with_reducible exact mem_h) | (with_reducible refine mem_t ?_) | (with_reducible refine mem_r ?_)))) | exact off_1 (by with_reducible assumption) (by (repeat' (first | (with_reducible exact mem_h) | (with_reducible refine mem_t ?_) | (with_reducible refine mem_r ?_)))) | k_ne) | assumption)))
      (case ol => (repeat' (first | (with_reducible assumption) | exact List.forall_mem_nil _ | (with_reducible refine List.forall_mem_cons.mpr ⟨?_, ?_⟩) | (with_reducible refine List.forall_mem_append.mpr ⟨?_, ?_⟩) | (first | exact gt_ne (by with_reducible assumption) | exact off_I (by with_reducible assumption) (by (repeat' (first | (with_reducible exact mem_h) | (with_reducible refine mem_t ?_) | (with_reducible refine mem_r ?_)))) | exact off_C (by with_reducible assumption) (by (repeat' (first | (with_reducible exact mem_h) | (with_reducible refine mem_t ?_) | (with_reducible refine mem_r ?_)))) | exact off_D (by with_reducible assumption) (by (repeat' (first | (with_reducible exact mem_h) | (with_reducible refine mem_t ?_) | (with_reducible refine mem_r ?_)))) | exact off_1 (by with_reducible assumption) (by (repeat' (first | (with_reducible exact mem_h) | (with_reducible refine mem_t ?_) | (with_reducible refine mem_r ?_)))) | k_ne) | assumption)))
      (case I => assumption)
      (case c => assumption)
      (case m0 => assumption)
      (case m1 => assumption)
      (case dat => first
          | (refine' mk_num ?hm9; (case hm9 => (repeat' (first | (with_reducible exact mem_h) | (with_reducible refine' mem_t ?_) | (with_reducible refine' mem_r ?_)))))
          | (refine' mk_truth ?hm9; (case hm9 => (repeat' (first | (with_reducible exact mem_h) | (with_reducible refine' mem_t ?_) | (with_reducible refine' mem_r ?_)))))
          | (refine' mk_char ?hm9; (case hm9 => (repeat' (first | (with_reducible exact mem_h) | (with_reducible refine' mem_t ?_) | (with_reducible refine' mem_r ?_)))))
          | (refine' mk_sym ?hm9; (case hm9 => (repeat' (first | (with_reducible exact mem_h) | (with_reducible refine' mem_t ?_) | (with_reducible refine' mem_r ?_)))))
          | (refine' mk_strE 0 ?hm9 ?hx9; (case hm9 => (repeat' (first | (with_reducible exact mem_h) | (with_reducible refine' mem_t ?_) | (with_reducible refine' mem_r ?_)))); (case hx9 => decide +kernel))
          | (refine' mk_strE 1 ?hm9 ?hx9; (case hm9 => (repeat' (first | (with_reducible exact mem_h) | (with_reducible refine' mem_t ?_) | (with_reducible refine' mem_r ?_)))); (case hx9 => decide +kernel))
          | (refine' mk_strE 2 ?hm9 ?hx9; (case hm9 => (repeat' (first | (with_reducible exact mem_h) | (with_reducible refine' mem_t ?_) | (with_reducible refine' mem_r ?_)))); (case hx9 => decide +kernel))
          | (refine' mk_empty ?hm9; (case hm9 => (repeat' (first | (with_reducible exact mem_h) | (with_reducible refine' mem_t ?_) | (with_reducible refine' mem_r ?_)))))
          | (refine' mk_nothing ?hm9; (case hm9 => (repeat' (first | (with_reducible exact mem_h) | (with_reducible refine' mem_t ?_) | (with_reducible refine' mem_r ?_)))))
          | (refine' mk_pair ?hm9 (DatIn.mono ?s1 ?h1) (DatIn.mono ?s2 ?h2); (case hm9 => (repeat' (first | (with_reducible exact mem_h) | (with_reducible refine' mem_t ?_) | (with_reducible refine' mem_r ?_)))); (case h1 => assumption); (case h2 => assumption); (case s1 => ((repeat' (first | exact List.forall_mem_nil _ | (with_reducible refine List.forall_mem_cons.mpr ⟨?_, ?_⟩) | (with_reducible refine List.forall_mem_append.mpr ⟨?_, ?_⟩) | (with_reducible exact mem_h) | (with_reducible refine mem_t ?_) | (with_reducible exact mem_l (by with_reducible assumption)) | (with_reducible refine mem_r ?_) | (with_reducible assumption) | (intro e9 he9; ((repeat' (first | (with_reducible exact he9) | (with_reducible exact mem_l he9) | (with_reducible refine mem_t ?_) | (with_reducible refine mem_r ?_))); done)))); done)); (case s2 => ((repeat' (first | exact List.forall_mem_nil _ | (with_reducible refine List.forall_mem_cons.mpr ⟨?_, ?_⟩) | (with_reducible refine List.forall_mem_append.mpr ⟨?_, ?_⟩) | (with_reducible exact mem_h) | (with_reducible refine mem_t ?_) | (with_reducible exact mem_l (by with_reducible assumption)) | (with_reducible refine mem_r ?_) | (with_reducible assumption) | (intro e9 he9; ((repeat' (first | (with_reducible exact he9) | (with_reducible exact mem_l he9) | (with_reducible refine mem_t ?_) | (with_reducible refine mem_r ?_))); done)))); done))))
      (case ok => first
          | exact .num (by unfold NumOk; omega)
          | exact .truth (by unfold BitOk; omega)
          | exact .char (by unfold BitOk; omega)
          | exact .sym (by unfold BitOk; omega)
          | exact .str (by decide) (by decide)
          | exact .empty
          | exact .nothing
          | exact ok_pairN hk9 (by assumption) (by assumption)))
theorem picture_all (n : Nat) : PictureC prog w p loose mean mg mb n := Nat.rec (motive := fun n => PictureC prog w p loose mean mg mb n) (picture_some 0 fun _ e => nomatch e) (fun n ih => picture_some (n + 1) fun _ e => Nat.succ.inj e ▸ ih) n
end
def TurnedC (prog : Program) (w : World) (p : Program) (loose : List Str) (mean : ExcName → Option Value) (mg mb : Str → Option Value) (n : Nat) : Prop :=
  ∀ {dp un : Nat} {gd : Option (List Code)} {cn : Str} {cs : Scope} {a : Addr} {ccd : Value} {cl : List (Str × Addr)} {outer : List Env} {A₀ : Around} {base h₀ : Heap} {L : Addr} {m : Str → Option Value} {news : List (Addr × Obj)} {s : Shared} {Q E : Value → Shared → Prop}
    {d l : Addr} {mixed : Int} {t : Tok} {n1 n2 : Nat} {vals : List Value} {cells : List Int} {v : Value} {pic : Pic} {nw nw1 : List (Addr × Obj)},
    Below A₀ base outer h₀ → Fr h₀ L s.heap m → (Mine.hd.heap_39 w.params).In h₀ →
    News h₀ L s.heap nw → Pick (d, listOf [Value.ref l, Value.int mixed t].toArray n1) nw nw1 → Pick (l, listOf vals.toArray n2) nw1 news →
    Top p loose mean mg mb h₀ → cs.kind = .function → dp + (n + 10) < recursionLimit → un + (20 * n + 500) < cLine →
    @Ne Nat d l → (∀ p ∈ news, p.1 ≠ d) → (∀ p ∈ news, p.1 ≠ l) →
    IntsAre vals cells → CellsOk cells → 0 ≤ mixed → mixed < 2147483647 → DatIn news v pic.dat → Ok 3 n pic →
    (∀ (r : Value) (pic' : Pic) mixed' t' n1' vals' cells' n2' tl h' tk', Ok 4 (n + 1) pic' → DatIn (tl ++ news) r pic'.dat → Over news tl → (∀ q ∈ tl, q.1 ≠ d) → (∀ q ∈ tl, q.1 ≠ l) → IntsAre vals' cells' → CellsOk cells' → 0 ≤ mixed' → mixed' < 2147483647 →
      Fr h₀ L h' m → News h₀ L h' ((d, listOf [Value.ref l, Value.int mixed' t'].toArray n1') :: (l, listOf vals'.toArray n2') :: (tl ++ news)) → Q r { s with heap := h', toks := tk' }) →
    wpAny (model prog w) (ktrTop dp un gd cn cs L a ccd cl outer) (call (.ref 470) [.ref d, v]) Q E s
section
variable {prog : Program} {w : World} {p : Program} {loose : List Str} {mean : ExcName → Option Value} {mg mb : Str → Option Value}
set_option maxHeartbeats 4000000 in
theorem turned_leaf (C1 : PictureC prog w p loose mean mg mb 1) (n : Nat) {dp un : Nat} {gd : Option (List Code)} {cn : Str} {cs : Scope} {a : Addr} {ccd : Value} {cl : List (Str × Addr)} {outer : List Env} {A₀ : Around} {base h₀ : Heap} {L : Addr} {m : Str → Option Value} {news : List (Addr × Obj)} {s : Shared} {Q E : Value → Shared → Prop}
    {d l : Addr} {mixed : Int} {t : Tok} {n1 n2 : Nat} {vals : List Value} {cells : List Int} {pa : Addr} {pk : Nat} {wd : Str} {wt : Tok} {more : List Value} {pic : Pic}
    (B : Below A₀ base outer h₀) (F : Fr h₀ L s.heap m) (X : (Mine.hd.heap_39 w.params).In h₀)
    (N : News h₀ L s.heap ((d, listOf [Value.ref l, Value.int mixed t].toArray n1) :: (l, listOf vals.toArray n2) :: news))
    (T : Top p loose mean mg mb h₀) (hk : cs.kind = .function) (hd : dp + (n + 10) < recursionLimit) (hu : un + (20 * n + 500) < cLine)
    (hdl : @Ne Nat d l) (hod : ∀ p ∈ news, p.1 ≠ d) (hol : ∀ p ∈ news, p.1 ≠ l)
    (hI : IntsAre vals cells) (hc : CellsOk cells) (hm0 : 0 ≤ mixed) (hm1 : mixed < 2147483647) (hpm : (pa, tupOf (.str wd wt :: more) pk) ∈ news) (hw1 : wd ≠ Str.ofString "pair") (hw2 : wd ≠ Str.ofString "vector") (hdat : DatIn news (.ref pa) pic.dat) (hok : Ok 3 n pic)
    (ret : ∀ (r : Value) (pic' : Pic) mixed' t' n1' vals' cells' n2' tl h' tk', Ok 4 (n + 1) pic' → DatIn (tl ++ news) r pic'.dat → Over news tl → (∀ q ∈ tl, q.1 ≠ d) → (∀ q ∈ tl, q.1 ≠ l) → IntsAre vals' cells' → CellsOk cells' → 0 ≤ mixed' → mixed' < 2147483647 →
      Fr h₀ L h' m → News h₀ L h' ((d, listOf [Value.ref l, Value.int mixed' t'].toArray n1') :: (l, listOf vals'.toArray n2') :: (tl ++ news)) → Q r { s with heap := h', toks := tk' }) :
    wpAny (model prog w) (ktrTop dp un gd cn cs L a ccd cl outer) (call (.ref 470) [.ref d, .ref pa]) Q E s := by
  w_top off
  k_with_none
  (k_with "call ref" => (k_here; (with_reducible show wpAny _ _ (call (Value.ref 451) _) _ _ _); k_dflt (
  refine' draw_use ?kB ?kF ?kX ?kN ?p1 ?p2 ?kT ?kk ?kd ?ku ?dl ?od ?ol ?I ?c ?m0 ?m1 ?h1 ?h2 ?_
  (case kB => k_asm)
  (case kF => k_asm)
  (case kX => k_asm)
  (case kN => k_asm)
  (case p1 => (repeat' (first | exact Pick.head | refine' Pick.tail ?_ | (with_reducible refine' Pick.app ?_))))
  (case p2 => (repeat' (first | exact Pick.head | refine' Pick.tail ?_ | (with_reducible refine' Pick.app ?_))))
  (case kT => k_asm)
  (case kk => first | exact rfl | assumption)
  (case kd => first | exact room_td (by with_reducible assumption) | exact room_t1 (by with_reducible assumption) | ktr_room)
  (case ku => first | exact units_td (by with_reducible assumption) | exact units_t1 (by with_reducible assumption) | ktr_units)
  (case dl => assumption)
  (case od => (repeat' (first | (with_reducible assumption) | exact List.forall_mem_nil _ | (with_reducible refine List.forall_mem_cons.mpr ⟨?_, ?_⟩) | (with_reducible refine List.forall_mem_append.mpr ⟨?_, ?_⟩) | (first | exact gt_ne (by with_reducible assumption) | exact off_I (by with_reducible assumption) (by (repeat' (first | (with_reducible exact mem_h) | (with_reducible refine mem_t ?_) | (with_reducible refine mem_r ?_)))) | exact off_C (by with_reducible assumption) (by (repeat' (first | (with_reducible exact mem_h) | (with_reducible refine mem_t ?_) | (with_reducible refine mem_r ?_)))) | exact off_D (by with_reducible assumption) (by (repeat' (first | (with_reducible exact mem_h) | (with_reducible refine mem_t ?_) | (with_reducible refine mem_r ?_)))) | exact off_1 (by with_reducible assumption) (by (repeat' (first | (with_reducible exact mem_h) | (with_reducible refine mem_t ?_) | (with_reducible refine mem_r ?_)))) | k_ne) | assumption)))
  (case ol => (repeat' (first | (with_reducible assumption) | exact List.forall_mem_nil _ | (with_reducible refine List.forall_mem_cons.mpr ⟨?_, ?_⟩) | (with_reducible refine List.forall_mem_append.mpr ⟨?_, ?_⟩) | (first | exact gt_ne (by with_reducible assumption) | exact off_I (by with_reducible assumption) (by (repeat' (first | (with_reducible exact mem_h) | (with_reducible refine mem_t ?_) | (with_reducible refine mem_r ?_)))) | exact off_C (by with_reducible assumption) (by (repeat' (first | (with_reducible exact mem_h) | (with_reducible refine mem_t ?_) | (with_reducible refine mem_r ?_)))) | exact off_D (by with_reducible assumption) (by (repeat' (first | (with_reducible exact mem_h) | (with_reducible refine mem_t ?_) | (with_reducible refine mem_r ?_)))) | exact off_1 (by with_reducible assumption) (by (repeat' (first | (with_reducible exact mem_h) | (with_reducible refine mem_t ?_) | (with_reducible refine mem_r ?_)))) | k_ne) | assumption)))
  (case I => assumption)
  (case c => assumption)
  (case m0 => assumption)
  (case m1 => assumption)
  (case h1 => decide)
  (case h2 => decide)
  k_whole
  intro v tv mixed' t' n1' vals' cells' n2' h' tk' hv0 hv1 hI' hc' hm0' hm1' F' N'
  (try k_sweep)
  (first | (have hs9 := split2 hv0 hv1; rcases hs9 with hs9 | hs9 <;> subst hs9) | (have hs9 := split3 hv0 hv1; rcases hs9 with hs9 | hs9 | hs9 <;> subst hs9) | (have hs9 := split4 hv0 hv1; rcases hs9 with hs9 | hs9 | hs9 | hs9 <;> subst hs9) | (have hs9 := split7 hv0 hv1; rcases hs9 with hs9 | hs9 | hs9 | hs9 | hs9 | hs9 | hs9 <;> subst hs9) | (have hs9 := split10 hv0 hv1; rcases hs9 with hs9 | hs9 | hs9 | hs9 | hs9 | hs9 | hs9 | hs9 | hs9 | hs9 <;> subst hs9))
  all_goals ((try dsimp only); (try k_fold)))))
  (k_with "newList" => (k_here; k_dflt (refine' newList_K ?k1 ?k2 ?_; (case k1 => k_asm); (case k2 => k_asm); k_whole); intro l' h' F' N' l1; (try k_lt l1); (iterate 24 (try (obtain ⟨_, l1⟩ := l1))); (try k_sweep)))
  (k_with "newTuple" => (k_here; k_dflt (refine' kup_newTuple ?F ?N ?_ ?z; (case F => k_asm); (case N => k_asm); (case z => kmk_size)); intro D' h' F' N' l1; (try k_lt l1); (iterate 24 (try (obtain ⟨_, l1⟩ := l1))); (try k_sweep)))
  (k_with "call ref" => (k_here; (with_reducible show wpAny _ _ (call (Value.ref 463) _) _ _ _); k_dflt (
  refine' C1 ?kB ?kF ?kX ?kN ?p1 ?p2 ?kT ?kk ?kd ?ku ?dl ?od ?ol ?I ?c ?m0 ?m1 ?deep ?_
  (case kB => k_asm)
  (case kF => k_asm)
  (case kX => k_asm)
  (case kN => k_asm)
  (case p1 => (repeat' (first | exact Pick.head | (with_reducible refine' Pick.tail ?_) | (with_reducible refine' Pick.app ?_))))
  (case p2 => (repeat' (first | exact Pick.head | (with_reducible refine' Pick.tail ?_) | (with_reducible refine' Pick.app ?_))))
  (case kT => k_asm)
  (case kk => first | exact rfl | assumption)
  (case kd => first | exact room_td (by with_reducible assumption) | exact room_t1 (by with_reducible assumption) | ktr_room)
  (case ku => first | exact units_td (by with_reducible assumption) | exact units_t1 (by with_reducible assumption) | ktr_units)
  (case dl => assumption)
  (case od => (repeat' (first | (with_reducible assumption) | exact List.forall_mem_nil _ | (with_reducible refine List.forall_mem_cons.mpr ⟨?_, ?_⟩) | (with_reducible refine List.forall_mem_append.mpr ⟨?_, ?_⟩) | (first | exact gt_ne (by with_reducible assumption) | exact off_I (by with_reducible assumption) (by (repeat' (first | (with_reducible exact mem_h) | (with_reducible refine mem_t ?_) | (with_reducible refine mem_r ?_)))) | exact off_C (by with_reducible assumption) (by (repeat' (first | (with_reducible exact mem_h) | (with_reducible refine mem_t ?_) | (with_reducible refine mem_r ?_)))) | exact off_D (by with_reducible assumption) (by (repeat' (first | (with_reducible exact mem_h) | (with_reducible refine mem_t ?_) | (with_reducible refine mem_r ?_)))) | exact off_1 (by with_reducible assumption) (by (repeat' (first | (with_reducible exact mem_h) | (with_reducible refine mem_t ?_) | (with_reducible refine mem_r ?_)))) | k_ne) | assumption)))
  (case ol => (repeat' (first | (with_reducible assumption) | exact List.forall_mem_nil _ | (with_reducible refine List.forall_mem_cons.mpr ⟨?_, ?_⟩) | (with_reducible refine List.forall_mem_append.mpr ⟨?_, ?_⟩) | (first | exact gt_ne (by with_reducible assumption) | exact off_I (by with_reducible assumption) (by (repeat' (first | (with_reducible exact mem_h) | (with_reducible refine mem_t ?_) | (with_reducible refine mem_r ?_)))) | exact off_C (by with_reducible assumption) (by (repeat' (first | (with_reducible exact mem_h) | (with_reducible refine mem_t ?_) | (with_reducible refine mem_r ?_)))) | exact off_D (by with_reducible assumption) (by (repeat' (first | (with_reducible exact mem_h) | (with_reducible refine mem_t ?_) | (with_reducible refine mem_r ?_)))) | exact off_1 (by with_reducible assumption) (by (repeat' (first | (with_reducible exact mem_h) | (with_reducible refine mem_t ?_) | (with_reducible refine mem_r ?_)))) | k_ne) | assumption)))
  (case I => assumption)
  (case c => assumption)
  (case m0 => assumption)
  (case m1 => assumption)
  (case deep => rfl)
  k_whole
  intro r9 pic9 mixed9 t9 n9 vals9 cells9 n9' tl9 h9 tk9 hok9 hdat9 hov9 htd9 htl9 hI9 hc9 hm09 hm19 F9 N9
  (try k_sweep)
  (try dsimp only)
  (try k_fold))))
  (k_with "call ref" => (k_here; (with_reducible show wpAny _ _ (call (Value.ref 470) _) _ _ _); k_dflt (
  refine' IH ?kB ?kF ?kX ?kN ?p1 ?p2 ?kT ?kk ?kd ?ku ?dl ?od ?ol ?I ?c ?m0 ?m1 ?dat9 ?ok9 ?_
  (case kB => k_asm)
  (case kF => k_asm)
  (case kX => k_asm)
  (case kN => k_asm)
  (case p1 => (repeat' (first | exact Pick.head | (with_reducible refine' Pick.tail ?_) | (with_reducible refine' Pick.app ?_))))
  (case p2 => (repeat' (first | exact Pick.head | (with_reducible refine' Pick.tail ?_) | (with_reducible refine' Pick.app ?_))))
  (case kT => k_asm)
  (case kk => first | exact rfl | assumption)
  (case kd => first | exact room_td (by with_reducible assumption) | exact room_ts (by with_reducible assumption) | ktr_room)
  (case ku => first | exact units_td (by with_reducible assumption) | exact units_ts (by with_reducible assumption) | ktr_units)
  (case dl => assumption)
  (case od => (repeat' (first | (with_reducible assumption) | exact List.forall_mem_nil _ | (with_reducible refine List.forall_mem_cons.mpr ⟨?_, ?_⟩) | (with_reducible refine List.forall_mem_append.mpr ⟨?_, ?_⟩) | (first | exact gt_ne (by with_reducible assumption) | exact off_I (by with_reducible assumption) (by (repeat' (first | (with_reducible exact mem_h) | (with_reducible refine mem_t ?_) | (with_reducible refine mem_r ?_)))) | exact off_C (by with_reducible assumption) (by (repeat' (first | (with_reducible exact mem_h) | (with_reducible refine mem_t ?_) | (with_reducible refine mem_r ?_)))) | exact off_D (by with_reducible assumption) (by (repeat' (first | (with_reducible exact mem_h) | (with_reducible refine mem_t ?_) | (with_reducible refine mem_r ?_)))) | exact off_1 (by with_reducible assumption) (by (repeat' (first | (with_reducible exact mem_h) | (with_reducible refine mem_t ?_) | (with_reducible refine mem_r ?_)))) | k_ne) | assumption)))
  (case ol => (repeat' (first | (with_reducible assumption) | exact List.forall_mem_nil _ | (with_reducible refine List.forall_mem_cons.mpr ⟨?_, ?_⟩) | (with_reducible refine List.forall_mem_append.mpr ⟨?_, ?_⟩) | (first | exact gt_ne (by with_reducible assumption) | exact off_I (by with_reducible assumption) (by (repeat' (first | (with_reducible exact mem_h) | (with_reducible refine mem_t ?_) | (with_reducible refine mem_r ?_)))) | exact off_C (by with_reducible assumption) (by (repeat' (first | (with_reducible exact mem_h) | (with_reducible refine mem_t ?_) | (with_reducible refine mem_r ?_)))) | exact off_D (by with_reducible assumption) (by (repeat' (first | (with_reducible exact mem_h) | (with_reducible refine mem_t ?_) | (with_reducible refine mem_r ?_)))) | exact off_1 (by with_reducible assumption) (by (repeat' (first | (with_reducible exact mem_h) | (with_reducible refine mem_t ?_) | (with_reducible refine mem_r ?_)))) | k_ne) | assumption)))
  (case I => assumption)
  (case c => assumption)
  (case m0 => assumption)
  (case m1 => assumption)
  (case dat9 => first | (with_reducible assumption) | (refine' DatIn.mono ?s9 ?h9; (case h9 => (with_reducible assumption)); (case s9 => (repeat' (first | exact List.forall_mem_nil _ | (with_reducible refine List.forall_mem_cons.mpr ⟨?_, ?_⟩) | (with_reducible refine List.forall_mem_append.mpr ⟨?_, ?_⟩) | (with_reducible exact mem_h) | (with_reducible refine' mem_t ?_) | (with_reducible refine' mem_r ?_) | (intro e9 he9; exact (by (repeat' (first | with_reducible exact he9 | (with_reducible refine mem_t ?_) | (with_reducible exact mem_l he9) | (with_reducible refine mem_r ?_))))))))))
  (case ok9 => assumption)
  k_whole
  intro r9 pic9 mixed9 t9 n9 vals9 cells9 n9' tl9 h9 tk9 hok9 hdat9 hov9 htd9 htl9 hI9 hc9 hm09 hm19 F9 N9
  (try k_sweep)
  (try dsimp only)
  (try k_fold))))
  (k_with "subscriptTail" => (k_here; (with_reducible show wpAny _ _ (subscriptTail _ _ (Value.ref _) (Value.int 0 _)) _ _ _); k_dflt (refine' tup_item0 ?N ?m ?_; (case N => k_asm); (case m => k_mem); k_whole)))
  (k_with "compareOp Eq str str" => (k_here; k_dflt (refine eq_str_ne (by with_reducible assumption) ?_)))
  have IH : True := trivial
  refine wpAny_call ?_
  k_dflt ktr_enter
  have hAL : True := trivial
  k_steps
  all_goals (
    (rename Fr _ _ _ _ => kF)
    (rename News _ _ _ _ => kN)
    (iterate 24 (try ((with_reducible rename _ ∧ _ => hh9); obtain ⟨_, _⟩ := hh9)))
    refine' ret _ _ _ _ _ _ _ _ _ _ _ ?ok (ret_dat ?tl ?dat) ?over ?od ?ol ?I ?c ?m0 ?m1 kF (ret_ledger kN ?p1 ?p2 ?tl)
    (case p1 => (repeat' (first | exact Pick.head | (with_reducible refine' Pick.tail ?_) | (with_reducible refine' Pick.app ?_))))
    (case p2 => (repeat' (first | exact Pick.head | (with_reducible refine' Pick.tail ?_) | (with_reducible refine' Pick.app ?_))))
    (case tl => (repeat' (first | exact Tail.nil | (with_reducible refine' Tail.cons ?_) | (with_reducible refine' Tail.app ?_))))
    (case over => (repeat' (first | exact Over.nil | (with_reducible refine Over.cons ?_ ?_) | (with_reducible refine Over.app ?_ ?_) | exact apart_lt (by with_reducible assumption) | exact apart_lt (over_lt hAL (by omega)) | (intro e9 he9; exact apart_lt (by with_reducible assumption) e9 (by (repeat' (first | with_reducible exact he9 | (with_reducible refine mem_t ?_) | (with_reducible exact mem_l he9) | (with_reducible refine mem_r ?_))))) | (intro e9 he9; exact apart_off (by with_reducible assumption) e9 (by (repeat' (first | with_reducible exact he9 | (with_reducible refine mem_t ?_) | (with_reducible exact mem_l he9) | (with_reducible refine mem_r ?_))))) | (intro q9 hq9 e9 he9; exact (by with_reducible assumption : Over _ _) q9 hq9 e9 (by (repeat' (first | with_reducible exact he9 | (with_reducible refine mem_t ?_) | (with_reducible exact mem_l he9) | (with_reducible refine mem_r ?_))))))))
    (case od => (repeat' (first | (with_reducible assumption) | exact List.forall_mem_nil _ | (with_reducible refine List.forall_mem_cons.mpr ⟨?_, ?_⟩) | (with_reducible refine List.forall_mem_append.mpr ⟨?_, ?_⟩) | (first | exact gt_ne (by with_reducible assumption) | exact off_I (by with_reducible assumption) (by (repeat' (first | (with_reducible exact mem_h) | (with_reducible refine mem_t ?_) | (with_reducible refine mem_r ?_)))) | exact off_C (by with_reducible assumption) (by (repeat' (first | (with_reducible exact mem_h) | (with_reducible refine mem_t ?_) | (with_reducible refine mem_r ?_)))) | exact off_D (by with_reducible assumption) (by (repeat' (first | (with_reducible exact mem_h) | (with_reducible refine mem_t ?_) | (with_reducible refine mem_r ?_)))) | exact off_1 (by with_reducible assumption) (by (repeat' (first | (with_reducible exact mem_h) | (with_reducible refine mem_t ?_) | (with_reducible refine mem_r ?_)))) | k_ne) | assumption)))
    (case ol => (repeat' (first | (with_reducible assumption) | exact List.forall_mem_nil _ | (with_reducible refine List.forall_mem_cons.mpr ⟨?_, ?_⟩) | (with_reducible refine List.forall_mem_append.mpr ⟨?_, ?_⟩) | (first | exact gt_ne (by with_reducible assumption) | exact off_I (by with_reducible assumption) (by (repeat' (first | (with_reducible exact mem_h) | (with_reducible refine mem_t ?_) | (with_reducible refine mem_r ?_)))) | exact off_C (by with_reducible assumption) (by (repeat' (first | (with_reducible exact mem_h) | (with_reducible refine mem_t ?_) | (with_reducible refine mem_r ?_)))) | exact off_D (by with_reducible assumption) (by (repeat' (first | (with_reducible exact mem_h) | (with_reducible refine mem_t ?_) | (with_reducible refine mem_r ?_)))) | exact off_1 (by with_reducible assumption) (by (repeat' (first | (with_reducible exact mem_h) | (with_reducible refine mem_t ?_) | (with_reducible refine mem_r ?_)))) | k_ne) | assumption)))
    (case I => assumption)
    (case c => assumption)
    (case m0 => assumption)
    (case m1 => assumption)
    (case dat => first
      | ((refine' DatIn.mono ?s9 ?h9; (case h9 => (with_reducible assumption)); (case s9 => (repeat' (first | exact List.forall_mem_nil _ | (with_reducible refine List.forall_mem_cons.mpr ⟨?_, ?_⟩) | (with_reducible refine List.forall_mem_append.mpr ⟨?_, ?_⟩) | (with_reducible exact mem_h) | (with_reducible refine' mem_t ?_) | (with_reducible refine' mem_r ?_) | (intro e9 he9; exact (by (repeat' (first | with_reducible exact he9 | (with_reducible refine mem_t ?_) | (with_reducible exact mem_l he9) | (with_reducible refine mem_r ?_))))))))))
      | (refine' mk_pair ?hm9 ?h1 ?h2; (case hm9 => (repeat' (first | (with_reducible exact mem_h) | (with_reducible refine' mem_t ?_) | (with_reducible refine' mem_r ?_)))); (case h1 => ((refine' DatIn.mono ?s9 ?h9; (case h9 => (with_reducible assumption)); (case s9 => (repeat' (first | exact List.forall_mem_nil _ | (with_reducible refine List.forall_mem_cons.mpr ⟨?_, ?_⟩) | (with_reducible refine List.forall_mem_append.mpr ⟨?_, ?_⟩) | (with_reducible exact mem_h) | (with_reducible refine' mem_t ?_) | (with_reducible refine' mem_r ?_) | (intro e9 he9; exact (by (repeat' (first | with_reducible exact he9 | (with_reducible refine mem_t ?_) | (with_reducible exact mem_l he9) | (with_reducible refine mem_r ?_))))))))))); (case h2 => ((refine' DatIn.mono ?s9 ?h9; (case h9 => (with_reducible assumption)); (case s9 => (repeat' (first | exact List.forall_mem_nil _ | (with_reducible refine List.forall_mem_cons.mpr ⟨?_, ?_⟩) | (with_reducible refine List.forall_mem_append.mpr ⟨?_, ?_⟩) | (with_reducible exact mem_h) | (with_reducible refine' mem_t ?_) | (with_reducible refine' mem_r ?_) | (intro e9 he9; exact (by (repeat' (first | with_reducible exact he9 | (with_reducible refine mem_t ?_) | (with_reducible exact mem_l he9) | (with_reducible refine mem_r ?_))))))))))))
      | (refine' mk_vec ?hm9 ?hb9 all_nil; (case hm9 => (repeat' (first | (with_reducible exact mem_h) | (with_reducible refine' mem_t ?_) | (with_reducible refine' mem_r ?_)))); (case hb9 => (repeat' (first | (with_reducible exact mem_h) | (with_reducible refine' mem_t ?_) | (with_reducible refine' mem_r ?_)))))
      | (refine' mk_vec ?hm9 ?hb9 (all_cons ?h1 all_nil); (case hm9 => (repeat' (first | (with_reducible exact mem_h) | (with_reducible refine' mem_t ?_) | (with_reducible refine' mem_r ?_)))); (case hb9 => (repeat' (first | (with_reducible exact mem_h) | (with_reducible refine' mem_t ?_) | (with_reducible refine' mem_r ?_)))); (case h1 => (first | ((refine' DatIn.mono ?s9 ?h9; (case h9 => (with_reducible assumption)); (case s9 => (repeat' (first | exact List.forall_mem_nil _ | (with_reducible refine List.forall_mem_cons.mpr ⟨?_, ?_⟩) | (with_reducible refine List.forall_mem_append.mpr ⟨?_, ?_⟩) | (with_reducible exact mem_h) | (with_reducible refine' mem_t ?_) | (with_reducible refine' mem_r ?_) | (intro e9 he9; exact (by (repeat' (first | with_reducible exact he9 | (with_reducible refine mem_t ?_) | (with_reducible exact mem_l he9) | (with_reducible refine mem_r ?_)))))))))) | (refine' mk_truth ?hm8; (case hm8 => (repeat' (first | (with_reducible exact mem_h) | (with_reducible refine' mem_t ?_) | (with_reducible refine' mem_r ?_))))))))
      | (refine' mk_vec ?hm9 ?hb9 (all_cons ?h1 (all_cons ?h2 all_nil)); (case hm9 => (repeat' (first | (with_reducible exact mem_h) | (with_reducible refine' mem_t ?_) | (with_reducible refine' mem_r ?_)))); (case hb9 => (repeat' (first | (with_reducible exact mem_h) | (with_reducible refine' mem_t ?_) | (with_reducible refine' mem_r ?_)))); (case h1 => (first | ((refine' DatIn.mono ?s9 ?h9; (case h9 => (with_reducible assumption)); (case s9 => (repeat' (first | exact List.forall_mem_nil _ | (with_reducible refine List.forall_mem_cons.mpr ⟨?_, ?_⟩) | (with_reducible refine List.forall_mem_append.mpr ⟨?_, ?_⟩) | (with_reducible exact mem_h) | (with_reducible refine' mem_t ?_) | (with_reducible refine' mem_r ?_) | (intro e9 he9; exact (by (repeat' (first | with_reducible exact he9 | (with_reducible refine mem_t ?_) | (with_reducible exact mem_l he9) | (with_reducible refine mem_r ?_)))))))))) | (refine' mk_truth ?hm8; (case hm8 => (repeat' (first | (with_reducible exact mem_h) | (with_reducible refine' mem_t ?_) | (with_reducible refine' mem_r ?_))))))); (case h2 => (first | ((refine' DatIn.mono ?s9 ?h9; (case h9 => (with_reducible assumption)); (case s9 => (repeat' (first | exact List.forall_mem_nil _ | (with_reducible refine List.forall_mem_cons.mpr ⟨?_, ?_⟩) | (with_reducible refine List.forall_mem_append.mpr ⟨?_, ?_⟩) | (with_reducible exact mem_h) | (with_reducible refine' mem_t ?_) | (with_reducible refine' mem_r ?_) | (intro e9 he9; exact (by (repeat' (first | with_reducible exact he9 | (with_reducible refine mem_t ?_) | (with_reducible exact mem_l he9) | (with_reducible refine mem_r ?_)))))))))) | (refine' mk_truth ?hm8; (case hm8 => (repeat' (first | (with_reducible exact mem_h) | (with_reducible refine' mem_t ?_) | (with_reducible refine' mem_r ?_))))))))
      | (refine' mk_vec ?hm9 ?hb9 (all_cons ?h1 (all_cons ?h2 (all_cons ?h3 all_nil))); (case hm9 => (repeat' (first | (with_reducible exact mem_h) | (with_reducible refine' mem_t ?_) | (with_reducible refine' mem_r ?_)))); (case hb9 => (repeat' (first | (with_reducible exact mem_h) | (with_reducible refine' mem_t ?_) | (with_reducible refine' mem_r ?_)))); (case h1 => (first | ((refine' DatIn.mono ?s9 ?h9; (case h9 => (with_reducible assumption)); (case s9 => (repeat' (first | exact List.forall_mem_nil _ | (with_reducible refine List.forall_mem_cons.mpr ⟨?_, ?_⟩) | (with_reducible refine List.forall_mem_append.mpr ⟨?_, ?_⟩) | (with_reducible exact mem_h) | (with_reducible refine' mem_t ?_) | (with_reducible refine' mem_r ?_) | (intro e9 he9; exact (by (repeat' (first | with_reducible exact he9 | (with_reducible refine mem_t ?_) | (with_reducible exact mem_l he9) | (with_reducible refine mem_r ?_)))))))))) | (refine' mk_truth ?hm8; (case hm8 => (repeat' (first | (with_reducible exact mem_h) | (with_reducible refine' mem_t ?_) | (with_reducible refine' mem_r ?_))))))); (case h2 => (first | ((refine' DatIn.mono ?s9 ?h9; (case h9 => (with_reducible assumption)); (case s9 => (repeat' (first | exact List.forall_mem_nil _ | (with_reducible refine List.forall_mem_cons.mpr ⟨?_, ?_⟩) | (with_reducible refine List.forall_mem_append.mpr ⟨?_, ?_⟩) | (with_reducible exact mem_h) | (with_reducible refine' mem_t ?_) | (with_reducible refine' mem_r ?_) | (intro e9 he9; exact (by (repeat' (first | with_reducible exact he9 | (with_reducible refine mem_t ?_) | (with_reducible exact mem_l he9) | (with_reducible refine mem_r ?_)))))))))) | (refine' mk_truth ?hm8; (case hm8 => (repeat' (first | (with_reducible exact mem_h) | (with_reducible refine' mem_t ?_) | (with_reducible refine' mem_r ?_))))))); (case h3 => (first | ((refine' DatIn.mono ?s9 ?h9; (case h9 => (with_reducible assumption)); (case s9 => (repeat' (first | exact List.forall_mem_nil _ | (with_reducible refine List.forall_mem_cons.mpr ⟨?_, ?_⟩) | (with_reducible refine List.forall_mem_append.mpr ⟨?_, ?_⟩) | (with_reducible exact mem_h) | (with_reducible refine' mem_t ?_) | (with_reducible refine' mem_r ?_) | (intro e9 he9; exact (by (repeat' (first | with_reducible exact he9 | (with_reducible refine mem_t ?_) | (with_reducible exact mem_l he9) | (with_reducible refine mem_r ?_)))))))))) | (refine' mk_truth ?hm8; (case hm8 => (repeat' (first | (with_reducible exact mem_h) | (with_reducible refine' mem_t ?_) | (with_reducible refine' mem_r ?_))))))))
      | (refine' mk_vec ?hm9 ?hb9 (all_cons ?h1 (all_cons ?h2 (all_cons ?h3 (all_cons ?h4 all_nil)))); (case hm9 => (repeat' (first | (with_reducible exact mem_h) | (with_reducible refine' mem_t ?_) | (with_reducible refine' mem_r ?_)))); (case hb9 => (repeat' (first | (with_reducible exact mem_h) | (with_reducible refine' mem_t ?_) | (with_reducible refine' mem_r ?_)))); (case h1 => (first | ((refine' DatIn.mono ?s9 ?h9; (case h9 => (with_reducible assumption)); (case s9 => (repeat' (first | exact List.forall_mem_nil _ | (with_reducible refine List.forall_mem_cons.mpr ⟨?_, ?_⟩) | (with_reducible refine List.forall_mem_append.mpr ⟨?_, ?_⟩) | (with_reducible exact mem_h) | (with_reducible refine' mem_t ?_) | (with_reducible refine' mem_r ?_) | (intro e9 he9; exact (by (repeat' (first | with_reducible exact he9 | (with_reducible refine mem_t ?_) | (with_reducible exact mem_l he9) | (with_reducible refine mem_r ?_)))))))))) | (refine' mk_truth ?hm8; (case hm8 => (repeat' (first | (with_reducible exact mem_h) | (with_reducible refine' mem_t ?_) | (with_reducible refine' mem_r ?_))))))); (case h2 => (first | ((refine' DatIn.mono ?s9 ?h9; (case h9 => (with_reducible assumption)); (case s9 => (repeat' (first | exact List.forall_mem_nil _ | (with_reducible refine List.forall_mem_cons.mpr ⟨?_, ?_⟩) | (with_reducible refine List.forall_mem_append.mpr ⟨?_, ?_⟩) | (with_reducible exact mem_h) | (with_reducible refine' mem_t ?_) | (with_reducible refine' mem_r ?_) | (intro e9 he9; exact (by (repeat' (first | with_reducible exact he9 | (with_reducible refine mem_t ?_) | (with_reducible exact mem_l he9) | (with_reducible refine mem_r ?_)))))))))) | (refine' mk_truth ?hm8; (case hm8 => (repeat' (first | (with_reducible exact mem_h) | (with_reducible refine' mem_t ?_) | (with_reducible refine' mem_r ?_))))))); (case h3 => (first | ((refine' DatIn.mono ?s9 ?h9; (case h9 => (with_reducible assumption)); (case s9 => (repeat' (first | exact List.forall_mem_nil _ | (with_reducible refine List.forall_mem_cons.mpr ⟨?_, ?_⟩) | (with_reducible refine List.forall_mem_append.mpr ⟨?_, ?_⟩) | (with_reducible exact mem_h) | (with_reducible refine' mem_t ?_) | (with_reducible refine' mem_r ?_) | (intro e9 he9; exact (by (repeat' (first | with_reducible exact he9 | (with_reducible refine mem_t ?_) | (with_reducible exact mem_l he9) | (with_reducible refine mem_r ?_)))))))))) | (refine' mk_truth ?hm8; (case hm8 => (repeat' (first | (with_reducible exact mem_h) | (with_reducible refine' mem_t ?_) | (with_reducible refine' mem_r ?_))))))); (case h4 => (first | ((refine' DatIn.mono ?s9 ?h9; (case h9 => (with_reducible assumption)); (case s9 => (repeat' (first | exact List.forall_mem_nil _ | (with_reducible refine List.forall_mem_cons.mpr ⟨?_, ?_⟩) | (with_reducible refine List.forall_mem_append.mpr ⟨?_, ?_⟩) | (with_reducible exact mem_h) | (with_reducible refine' mem_t ?_) | (with_reducible refine' mem_r ?_) | (intro e9 he9; exact (by (repeat' (first | with_reducible exact he9 | (with_reducible refine mem_t ?_) | (with_reducible exact mem_l he9) | (with_reducible refine mem_r ?_)))))))))) | (refine' mk_truth ?hm8; (case hm8 => (repeat' (first | (with_reducible exact mem_h) | (with_reducible refine' mem_t ?_) | (with_reducible refine' mem_r ?_)))))))))
    (case ok => first
      | ((refine' Ok.mono ?a9 ?b9 ?c9; (case b9 => (with_reducible assumption)); (case a9 => decide); (case c9 => omega)))
      | (refine' .pair ?k1 ?k2; (case k1 => ((refine' Ok.mono ?a9 ?b9 ?c9; (case b9 => (with_reducible assumption)); (case a9 => decide); (case c9 => omega)))); (case k2 => ((refine' Ok.mono ?a9 ?b9 ?c9; (case b9 => (with_reducible assumption)); (case a9 => decide); (case c9 => omega)))))
      | (refine .vec (Nat.le_of_ble_eq_true rfl) ?_; (repeat' (first | exact List.forall_mem_nil _ | (refine List.forall_mem_cons.mpr ⟨?_, ?_⟩) | ((refine' Ok.mono ?a9 ?b9 ?c9; (case b9 => (with_reducible assumption)); (case a9 => decide); (case c9 => omega))) | exact .truth (by unfold BitOk; omega))))))
end
section
variable {prog : Program} {w : World} {p : Program} {loose : List Str} {mean : ExcName → Option Value} {mg mb : Str → Option Value}
set_option maxHeartbeats 4000000 in
theorem turned_pair (C1 : PictureC prog w p loose mean mg mb 1) (n : Nat) (IH : TurnedC prog w p loose mean mg mb n) {dp un : Nat} {gd : Option (List Code)} {cn : Str} {cs : Scope} {a : Addr} {ccd : Value} {cl : List (Str × Addr)} {outer : List Env} {A₀ : Around} {base h₀ : Heap} {L : Addr} {m : Str → Option Value} {news : List (Addr × Obj)} {s : Shared} {Q E : Value → Shared → Prop}
    {d l : Addr} {mixed : Int} {t : Tok} {n1 n2 : Nat} {vals : List Value} {cells : List Int}
    {pa : Addr} {pk : Nat} {wt : Tok} {v1 v2 : Value} {pp pq : Pic}
    (B : Below A₀ base outer h₀) (F : Fr h₀ L s.heap m) (X : (Mine.hd.heap_39 w.params).In h₀)
    (N : News h₀ L s.heap ((d, listOf [Value.ref l, Value.int mixed t].toArray n1) :: (l, listOf vals.toArray n2) :: news))
    (T : Top p loose mean mg mb h₀) (hk : cs.kind = .function) (hd : dp + (n + 1 + 10) < recursionLimit) (hu : un + (20 * (n + 1) + 500) < cLine)
    (hdl : @Ne Nat d l) (hod : ∀ p ∈ news, p.1 ≠ d) (hol : ∀ p ∈ news, p.1 ≠ l)
    (hI : IntsAre vals cells) (hc : CellsOk cells) (hm0 : 0 ≤ mixed) (hm1 : mixed < 2147483647) (hpm : (pa, tupOf [.str (Str.ofString "pair") wt, v1, v2] pk) ∈ news) (hd1 : DatIn news v1 pp.dat) (hd2 : DatIn news v2 pq.dat) (ho1 : Ok 3 n pp) (ho2 : Ok 3 n pq) (hdat : DatIn news (.ref pa) (Pic.pair pp pq).dat) (hok : Ok 3 (n + 1) (Pic.pair pp pq))
    (ret : ∀ (r : Value) (pic' : Pic) mixed' t' n1' vals' cells' n2' tl h' tk', Ok 4 (n + 1 + 1) pic' → DatIn (tl ++ news) r pic'.dat → Over news tl → (∀ q ∈ tl, q.1 ≠ d) → (∀ q ∈ tl, q.1 ≠ l) → IntsAre vals' cells' → CellsOk cells' → 0 ≤ mixed' → mixed' < 2147483647 →
      Fr h₀ L h' m → News h₀ L h' ((d, listOf [Value.ref l, Value.int mixed' t'].toArray n1') :: (l, listOf vals'.toArray n2') :: (tl ++ news)) → Q r { s with heap := h', toks := tk' }) :
    wpAny (model prog w) (ktrTop dp un gd cn cs L a ccd cl outer) (call (.ref 470) [.ref d, .ref pa]) Q E s := by
  w_top off
  k_with_none
  (k_with "call ref" => (k_here; (with_reducible show wpAny _ _ (call (Value.ref 451) _) _ _ _); k_dflt (
  refine' draw_use ?kB ?kF ?kX ?kN ?p1 ?p2 ?kT ?kk ?kd ?ku ?dl ?od ?ol ?I ?c ?m0 ?m1 ?h1 ?h2 ?_
  (case kB => k_asm)
  (case kF => k_asm)
  (case kX => k_asm)
  (case kN => k_asm)
  (case p1 => (repeat' (first | exact Pick.head | refine' Pick.tail ?_ | (with_reducible refine' Pick.app ?_))))
  (case p2 => (repeat' (first | exact Pick.head | refine' Pick.tail ?_ | (with_reducible refine' Pick.app ?_))))
  (case kT => k_asm)
  (case kk => first | exact rfl | assumption)
  (case kd => first | exact room_td (by with_reducible assumption) | exact room_t1 (by with_reducible assumption) | ktr_room)
  (case ku => first | exact units_td (by with_reducible assumption) | exact units_t1 (by with_reducible assumption) | ktr_units)
  (case dl => assumption)
  (case od => (repeat' (first | (with_reducible assumption) | exact List.forall_mem_nil _ | (with_reducible refine List.forall_mem_cons.mpr ⟨?_, ?_⟩) | (with_reducible refine List.forall_mem_append.mpr ⟨?_, ?_⟩) | (first | exact gt_ne (by with_reducible assumption) | exact off_I (by with_reducible assumption) (by (repeat' (first | (with_reducible exact mem_h) | (with_reducible refine mem_t ?_) | (with_reducible refine mem_r ?_)))) | exact off_C (by with_reducible assumption) (by (repeat' (first | (with_reducible exact mem_h) | (with_reducible refine mem_t ?_) | (with_reducible refine mem_r ?_)))) | exact off_D (by with_reducible assumption) (by (repeat' (first | (with_reducible exact mem_h) | (with_reducible refine mem_t ?_) | (with_reducible refine mem_r ?_)))) | exact off_1 (by with_reducible assumption) (by (repeat' (first | (with_reducible exact mem_h) | (with_reducible refine mem_t ?_) | (with_reducible refine mem_r ?_)))) | k_ne) | assumption)))
  (case ol => (repeat' (first | (with_reducible assumption) | exact List.forall_mem_nil _ | (with_reducible refine List.forall_mem_cons.mpr ⟨?_, ?_⟩) | (with_reducible refine List.forall_mem_append.mpr ⟨?_, ?_⟩) | (first | exact gt_ne (by with_reducible assumption) | exact off_I (by with_reducible assumption) (by (repeat' (first | (with_reducible exact mem_h) | (with_reducible refine mem_t ?_) | (with_reducible refine mem_r ?_)))) | exact off_C (by with_reducible assumption) (by (repeat' (first | (with_reducible exact mem_h) | (with_reducible refine mem_t ?_) | (with_reducible refine mem_r ?_)))) | exact off_D (by with_reducible assumption) (by (repeat' (first | (with_reducible exact mem_h) | (with_reducible refine mem_t ?_) | (with_reducible refine mem_r ?_)))) | exact off_1 (by with_reducible assumption) (by (repeat' (first | (with_reducible exact mem_h) | (with_reducible refine mem_t ?_) | (with_reducible refine mem_r ?_)))) | k_ne) | assumption)))
  (case I => assumption)
  (case c => assumption)
  (case m0 => assumption)
  (case m1 => assumption)
  (case h1 => decide)
  (case h2 => decide)
  k_whole
  intro v tv mixed' t' n1' vals' cells' n2' h' tk' hv0 hv1 hI' hc' hm0' hm1' F' N'
  (try k_sweep)
  (first | (have hs9 := split2 hv0 hv1; rcases hs9 with hs9 | hs9 <;> subst hs9) | (have hs9 := split3 hv0 hv1; rcases hs9 with hs9 | hs9 | hs9 <;> subst hs9) | (have hs9 := split4 hv0 hv1; rcases hs9 with hs9 | hs9 | hs9 | hs9 <;> subst hs9) | (have hs9 := split7 hv0 hv1; rcases hs9 with hs9 | hs9 | hs9 | hs9 | hs9 | hs9 | hs9 <;> subst hs9) | (have hs9 := split10 hv0 hv1; rcases hs9 with hs9 | hs9 | hs9 | hs9 | hs9 | hs9 | hs9 | hs9 | hs9 | hs9 <;> subst hs9))
  all_goals ((try dsimp only); (try k_fold)))))
  (k_with "newList" => (k_here; k_dflt (refine' newList_K ?k1 ?k2 ?_; (case k1 => k_asm); (case k2 => k_asm); k_whole); intro l' h' F' N' l1; (try k_lt l1); (iterate 24 (try (obtain ⟨_, l1⟩ := l1))); (try k_sweep)))
  (k_with "newTuple" => (k_here; k_dflt (refine' kup_newTuple ?F ?N ?_ ?z; (case F => k_asm); (case N => k_asm); (case z => kmk_size)); intro D' h' F' N' l1; (try k_lt l1); (iterate 24 (try (obtain ⟨_, l1⟩ := l1))); (try k_sweep)))
  (k_with "call ref" => (k_here; (with_reducible show wpAny _ _ (call (Value.ref 463) _) _ _ _); k_dflt (
  refine' C1 ?kB ?kF ?kX ?kN ?p1 ?p2 ?kT ?kk ?kd ?ku ?dl ?od ?ol ?I ?c ?m0 ?m1 ?deep ?_
  (case kB => k_asm)
  (case kF => k_asm)
  (case kX => k_asm)
  (case kN => k_asm)
  (case p1 => (repeat' (first | exact Pick.head | (with_reducible refine' Pick.tail ?_) | (with_reducible refine' Pick.app ?_))))
  (case p2 => (repeat' (first | exact Pick.head | (with_reducible refine' Pick.tail ?_) | (with_reducible refine' Pick.app ?_))))
  (case kT => k_asm)
  (case kk => first | exact rfl | assumption)
  (case kd => first | exact room_td (by with_reducible assumption) | exact room_t1 (by with_reducible assumption) | ktr_room)
  (case ku => first | exact units_td (by with_reducible assumption) | exact units_t1 (by with_reducible assumption) | ktr_units)
  (case dl => assumption)
  (case od => (repeat' (first | (with_reducible assumption) | exact List.forall_mem_nil _ | (with_reducible refine List.forall_mem_cons.mpr ⟨?_, ?_⟩) | (with_reducible refine List.forall_mem_append.mpr ⟨?_, ?_⟩) | (first | exact gt_ne (by with_reducible assumption) | exact off_I (by with_reducible assumption) (by (repeat' (first | (with_reducible exact mem_h) | (with_reducible refine mem_t ?_) | (with_reducible refine mem_r ?_)))) | exact off_C (by with_reducible assumption) (by (repeat' (first | (with_reducible exact mem_h) | (with_reducible refine mem_t ?_) | (with_reducible refine mem_r ?_)))) | exact off_D (by with_reducible assumption) (by (repeat' (first | (with_reducible exact mem_h) | (with_reducible refine mem_t ?_) | (with_reducible refine mem_r ?_)))) | exact off_1 (by with_reducible assumption) (by (repeat' (first | (with_reducible exact mem_h) | (with_reducible refine mem_t ?_) | (with_reducible refine mem_r ?_)))) | k_ne) | assumption)))
  (case ol => (repeat' (first | (with_reducible assumption) | exact List.forall_mem_nil _ | (with_reducible refine List.forall_mem_cons.mpr ⟨?_, ?_⟩) | (with_reducible refine List.forall_mem_append.mpr ⟨?_, ?_⟩) | (first | exact gt_ne (by with_reducible assumption) | exact off_I (by with_reducible assumption) (by (repeat' (first | (with_reducible exact mem_h) | (with_reducible refine mem_t ?_) | (with_reducible refine mem_r ?_)))) | exact off_C (by with_reducible assumption) (by (repeat' (first | (with_reducible exact mem_h) | (with_reducible refine mem_t ?_) | (with_reducible refine mem_r ?_)))) | exact off_D (by with_reducible assumption) (by (repeat' (first | (with_reducible exact mem_h) | (with_reducible refine mem_t ?_) | (with_reducible refine mem_r ?_)))) | exact off_1 (by with_reducible assumption) (by (repeat' (first | (with_reducible exact mem_h) | (with_reducible refine mem_t ?_) | (with_reducible refine mem_r ?_)))) | k_ne) | assumption)))
  (case I => assumption)
  (case c => assumption)
  (case m0 => assumption)
  (case m1 => assumption)
  (case deep => rfl)
  k_whole
  intro r9 pic9 mixed9 t9 n9 vals9 cells9 n9' tl9 h9 tk9 hok9 hdat9 hov9 htd9 htl9 hI9 hc9 hm09 hm19 F9 N9
  (try k_sweep)
  (try dsimp only)
  (try k_fold))))
  (k_with "call ref" => (k_here; (with_reducible show wpAny _ _ (call (Value.ref 470) _) _ _ _); k_dflt (
  refine' IH ?kB ?kF ?kX ?kN ?p1 ?p2 ?kT ?kk ?kd ?ku ?dl ?od ?ol ?I ?c ?m0 ?m1 ?dat9 ?ok9 ?_
  (case kB => k_asm)
  (case kF => k_asm)
  (case kX => k_asm)
  (case kN => k_asm)
  (case p1 => (repeat' (first | exact Pick.head | (with_reducible refine' Pick.tail ?_) | (with_reducible refine' Pick.app ?_))))
  (case p2 => (repeat' (first | exact Pick.head | (with_reducible refine' Pick.tail ?_) | (with_reducible refine' Pick.app ?_))))
  (case kT => k_asm)
  (case kk => first | exact rfl | assumption)
  (case kd => first | exact room_td (by with_reducible assumption) | exact room_ts (by with_reducible assumption) | ktr_room)
  (case ku => first | exact units_td (by with_reducible assumption) | exact units_ts (by with_reducible assumption) | ktr_units)
  (case dl => assumption)
  (case od => (repeat' (first | (with_reducible assumption) | exact List.forall_mem_nil _ | (with_reducible refine List.forall_mem_cons.mpr ⟨?_, ?_⟩) | (with_reducible refine List.forall_mem_append.mpr ⟨?_, ?_⟩) | (first | exact gt_ne (by with_reducible assumption) | exact off_I (by with_reducible assumption) (by (repeat' (first | (with_reducible exact mem_h) | (with_reducible refine mem_t ?_) | (with_reducible refine mem_r ?_)))) | exact off_C (by with_reducible assumption) (by (repeat' (first | (with_reducible exact mem_h) | (with_reducible refine mem_t ?_) | (with_reducible refine mem_r ?_)))) | exact off_D (by with_reducible assumption) (by (repeat' (first | (with_reducible exact mem_h) | (with_reducible refine mem_t ?_) | (with_reducible refine mem_r ?_)))) | exact off_1 (by with_reducible assumption) (by (repeat' (first | (with_reducible exact mem_h) | (with_reducible refine mem_t ?_) | (with_reducible refine mem_r ?_)))) | k_ne) | assumption)))
  (case ol => (repeat' (first | (with_reducible assumption) | exact List.forall_mem_nil _ | (with_reducible refine List.forall_mem_cons.mpr ⟨?_, ?_⟩) | (with_reducible refine List.forall_mem_append.mpr ⟨?_, ?_⟩) | (first | exact gt_ne (by with_reducible assumption) | exact off_I (by with_reducible assumption) (by (repeat' (first | (with_reducible exact mem_h) | (with_reducible refine mem_t ?_) | (with_reducible refine mem_r ?_)))) | exact off_C (by with_reducible assumption) (by (repeat' (first | (with_reducible exact mem_h) | (with_reducible refine mem_t ?_) | (with_reducible refine mem_r ?_)))) | exact off_D (by with_reducible assumption) (by (repeat' (first | (with_reducible exact mem_h) | (with_reducible refine mem_t ?_) | (with_reducible refine mem_r ?_)))) | exact off_1 (by with_reducible assumption) (by (repeat' (first | (with_reducible exact mem_h) | (with_reducible refine mem_t ?_) | (with_reducible refine mem_r ?_)))) | k_ne) | assumption)))
  (case I => assumption)
  (case c => assumption)
  (case m0 => assumption)
  (case m1 => assumption)
  (case dat9 => first | (with_reducible assumption) | (refine' DatIn.mono ?s9 ?h9; (case h9 => (with_reducible assumption)); (case s9 => (repeat' (first | exact List.forall_mem_nil _ | (with_reducible refine List.forall_mem_cons.mpr ⟨?_, ?_⟩) | (with_reducible refine List.forall_mem_append.mpr ⟨?_, ?_⟩) | (with_reducible exact mem_h) | (with_reducible refine' mem_t ?_) | (with_reducible refine' mem_r ?_) | (intro e9 he9; exact (by (repeat' (first | with_reducible exact he9 | (with_reducible refine mem_t ?_) | (with_reducible exact mem_l he9) | (with_reducible refine mem_r ?_))))))))))
  (case ok9 => assumption)
  k_whole
  intro r9 pic9 mixed9 t9 n9 vals9 cells9 n9' tl9 h9 tk9 hok9 hdat9 hov9 htd9 htl9 hI9 hc9 hm09 hm19 F9 N9
  (try k_sweep)
  (try dsimp only)
  (try k_fold))))
  (k_with "subscriptTail" => (k_here; (with_reducible show wpAny _ _ (subscriptTail _ _ (Value.ref _) (Value.int 0 _)) _ _ _); k_dflt (refine' tup_item0 ?N ?m ?_; (case N => k_asm); (case m => k_mem); k_whole)))
  have hh1 := hd1.handed
  have hh2 := hd2.handed
  refine wpAny_call ?_
  k_dflt ktr_enter
  have hAL : True := trivial
  k_steps
  all_goals (
    (rename Fr _ _ _ _ => kF)
    (rename News _ _ _ _ => kN)
    (iterate 24 (try ((with_reducible rename _ ∧ _ => hh9); obtain ⟨_, _⟩ := hh9)))
    refine' ret _ _ _ _ _ _ _ _ _ _ _ ?ok (ret_dat ?tl ?dat) ?over ?od ?ol ?I ?c ?m0 ?m1 kF (ret_ledger kN ?p1 ?p2 ?tl)
    (case p1 => (repeat' (first | exact Pick.head | (with_reducible refine' Pick.tail ?_) | (with_reducible refine' Pick.app ?_))))
    (case p2 => (repeat' (first | exact Pick.head | (with_reducible refine' Pick.tail ?_) | (with_reducible refine' Pick.app ?_))))
    (case tl => (repeat' (first | exact Tail.nil | (with_reducible refine' Tail.cons ?_) | (with_reducible refine' Tail.app ?_))))
    (case over => (repeat' (first | exact Over.nil | (with_reducible refine Over.cons ?_ ?_) | (with_reducible refine Over.app ?_ ?_) | exact apart_lt (by with_reducible assumption) | exact apart_lt (over_lt hAL (by omega)) | (intro e9 he9; exact apart_lt (by with_reducible assumption) e9 (by (repeat' (first | with_reducible exact he9 | (with_reducible refine mem_t ?_) | (with_reducible exact mem_l he9) | (with_reducible refine mem_r ?_))))) | (intro e9 he9; exact apart_off (by with_reducible assumption) e9 (by (repeat' (first | with_reducible exact he9 | (with_reducible refine mem_t ?_) | (with_reducible exact mem_l he9) | (with_reducible refine mem_r ?_))))) | (intro q9 hq9 e9 he9; exact (by with_reducible assumption : Over _ _) q9 hq9 e9 (by (repeat' (first | with_reducible exact he9 | (with_reducible refine mem_t ?_) | (with_reducible exact mem_l he9) | (with_reducible refine mem_r ?_))))))))
    (case od => (repeat' (first | (with_reducible assumption) | exact List.forall_mem_nil _ | (with_reducible refine List.forall_mem_cons.mpr ⟨?_, ?_⟩) | (with_reducible refine List.forall_mem_append.mpr ⟨?_, ?_⟩) | (first | exact gt_ne (by with_reducible assumption) | exact off_I (by with_reducible assumption) (by (repeat' (first | (with_reducible exact mem_h) | (with_reducible refine mem_t ?_) | (with_reducible refine mem_r ?_)))) | exact off_C (by with_reducible assumption) (by (repeat' (first | (with_reducible exact mem_h) | (with_reducible refine mem_t ?_) | (with_reducible refine mem_r ?_)))) | exact off_D (by with_reducible assumption) (by (repeat' (first | (with_reducible exact mem_h) | (with_reducible refine mem_t ?_) | (with_reducible refine mem_r ?_)))) | exact off_1 (by with_reducible assumption) (by (repeat' (first | (with_reducible exact mem_h) | (with_reducible refine mem_t ?_) | (with_reducible refine mem_r ?_)))) | k_ne) | assumption)))
    (case ol => (repeat' (first | (with_reducible assumption) | exact List.forall_mem_nil _ | (with_reducible refine List.forall_mem_cons.mpr ⟨?_, ?_⟩) | (with_reducible refine List.forall_mem_append.mpr ⟨?_, ?_⟩) | (first | exact gt_ne (by with_reducible assumption) | exact off_I (by with_reducible assumption) (by (repeat' (first | (with_reducible exact mem_h) | (with_reducible refine mem_t ?_) | (with_reducible refine mem_r ?_)))) | exact off_C (by with_reducible assumption) (by (repeat' (first | (with_reducible exact mem_h) | (with_reducible refine mem_t ?_) | (with_reducible refine mem_r ?_)))) | exact off_D (by with_reducible assumption) (by (repeat' (first | (with_reducible exact mem_h) | (with_reducible refine mem_t ?_) | (with_reducible refine mem_r ?_)))) | exact off_1 (by with_reducible assumption) (by (repeat' (first | (with_reducible exact mem_h) | (with_reducible refine mem_t ?_) | (with_reducible refine mem_r ?_)))) | k_ne) | assumption)))
    (case I => assumption)
    (case c => assumption)
    (case m0 => assumption)
    (case m1 => assumption)
    (case dat => first
      | ((refine' DatIn.mono ?s9 ?h9; (case h9 => (with_reducible assumption)); (case s9 => (repeat' (first | exact List.forall_mem_nil _ | (with_reducible refine List.forall_mem_cons.mpr ⟨?_, ?_⟩) | (with_reducible refine List.forall_mem_append.mpr ⟨?_, ?_⟩) | (with_reducible exact mem_h) | (with_reducible refine' mem_t ?_) | (with_reducible refine' mem_r ?_) | (intro e9 he9; exact (by (repeat' (first | with_reducible exact he9 | (with_reducible refine mem_t ?_) | (with_reducible exact mem_l he9) | (with_reducible refine mem_r ?_))))))))))
      | (refine' mk_pair ?hm9 ?h1 ?h2; (case hm9 => (repeat' (first | (with_reducible exact mem_h) | (with_reducible refine' mem_t ?_) | (with_reducible refine' mem_r ?_)))); (case h1 => ((refine' DatIn.mono ?s9 ?h9; (case h9 => (with_reducible assumption)); (case s9 => (repeat' (first | exact List.forall_mem_nil _ | (with_reducible refine List.forall_mem_cons.mpr ⟨?_, ?_⟩) | (with_reducible refine List.forall_mem_append.mpr ⟨?_, ?_⟩) | (with_reducible exact mem_h) | (with_reducible refine' mem_t ?_) | (with_reducible refine' mem_r ?_) | (intro e9 he9; exact (by (repeat' (first | with_reducible exact he9 | (with_reducible refine mem_t ?_) | (with_reducible exact mem_l he9) | (with_reducible refine mem_r ?_))))))))))); (case h2 => ((refine' DatIn.mono ?s9 ?h9; (case h9 => (with_reducible assumption)); (case s9 => (repeat' (first | exact List.forall_mem_nil _ | (with_reducible refine List.forall_mem_cons.mpr ⟨?_, ?_⟩) | (with_reducible refine List.forall_mem_append.mpr ⟨?_, ?_⟩) | (with_reducible exact mem_h) | (with_reducible refine' mem_t ?_) | (with_reducible refine' mem_r ?_) | (intro e9 he9; exact (by (repeat' (first | with_reducible exact he9 | (with_reducible refine mem_t ?_) | (with_reducible exact mem_l he9) | (with_reducible refine mem_r ?_))))))))))))
      | (refine' mk_vec ?hm9 ?hb9 all_nil; (case hm9 => (repeat' (first | (with_reducible exact mem_h) | (with_reducible refine' mem_t ?_) | (with_reducible refine' mem_r ?_)))); (case hb9 => (repeat' (first | (with_reducible exact mem_h) | (with_reducible refine' mem_t ?_) | (with_reducible refine' mem_r ?_)))))
      | (refine' mk_vec ?hm9 ?hb9 (all_cons ?h1 all_nil); (case hm9 => (repeat' (first | (with_reducible exact mem_h) | (with_reducible refine' mem_t ?_) | (with_reducible refine' mem_r ?_)))); (case hb9 => (repeat' (first | (with_reducible exact mem_h) | (with_reducible refine' mem_t ?_) | (with_reducible refine' mem_r ?_)))); (case h1 => (first | ((refine' DatIn.mono ?s9 ?h9; (case h9 => (with_reducible assumption)); (case s9 => (repeat' (first | exact List.forall_mem_nil _ | (with_reducible refine List.forall_mem_cons.mpr ⟨?_, ?_⟩) | (with_reducible refine List.forall_mem_append.mpr ⟨?_, ?_⟩) | (with_reducible exact mem_h) | (with_reducible refine' mem_t ?_) | (with_reducible refine' mem_r ?_) | (intro e9 he9; exact (by (repeat' (first | with_reducible exact he9 | (with_reducible refine mem_t ?_) | (with_reducible exact mem_l he9) | (with_reducible refine mem_r ?_)))))))))) | (refine' mk_truth ?hm8; (case hm8 => (repeat' (first | (with_reducible exact mem_h) | (with_reducible refine' mem_t ?_) | (with_reducible refine' mem_r ?_))))))))
      | (refine' mk_vec ?hm9 ?hb9 (all_cons ?h1 (all_cons ?h2 all_nil)); (case hm9 => (repeat' (first | (with_reducible exact mem_h) | (with_reducible refine' mem_t ?_) | (with_reducible refine' mem_r ?_)))); (case hb9 => (repeat' (first | (with_reducible exact mem_h) | (with_reducible refine' mem_t ?_) | (with_reducible refine' mem_r ?_)))); (case h1 => (first | ((refine' DatIn.mono ?s9 ?h9; (case h9 => (with_reducible assumption)); (case s9 => (repeat' (first | exact List.forall_mem_nil _ | (with_reducible refine List.forall_mem_cons.mpr ⟨?_, ?_⟩) | (with_reducible refine List.forall_mem_append.mpr ⟨?_, ?_⟩) | (with_reducible exact mem_h) | (with_reducible refine' mem_t ?_) | (with_reducible refine' mem_r ?_) | (intro e9 he9; exact (by (repeat' (first | with_reducible exact he9 | (with_reducible refine mem_t ?_) | (with_reducible exact mem_l he9) | (with_reducible refine mem_r ?_)))))))))) | (refine' mk_truth ?hm8; (case hm8 => (repeat' (first | (with_reducible exact mem_h) | (with_reducible refine' mem_t ?_) | (with_reducible refine' mem_r ?_))))))); (case h2 => (first | ((refine' DatIn.mono ?s9 ?h9; (case h9 => (with_reducible assumption)); (case s9 => (repeat' (first | exact List.forall_mem_nil _ | (with_reducible refine List.forall_mem_cons.mpr ⟨?_, ?_⟩) | (with_reducible refine List.forall_mem_append.mpr ⟨?_, ?_⟩) | (with_reducible exact mem_h) | (with_reducible refine' mem_t ?_) | (with_reducible refine' mem_r ?_) | (intro e9 he9; exact (by (repeat' (first | with_reducible exact he9 | (with_reducible refine mem_t ?_) | (with_reducible exact mem_l he9) | (with_reducible refine mem_r ?_)))))))))) | (refine' mk_truth ?hm8; (case hm8 => (repeat' (first | (with_reducible exact mem_h) | (with_reducible refine' mem_t ?_) | (with_reducible refine' mem_r ?_))))))))
      | (refine' mk_vec ?hm9 ?hb9 (all_cons ?h1 (all_cons ?h2 (all_cons ?h3 all_nil))); (case hm9 => (repeat' (first | (with_reducible exact mem_h) | (with_reducible refine' mem_t ?_) | (with_reducible refine' mem_r ?_)))); (case hb9 => (repeat' (first | (with_reducible exact mem_h) | (with_reducible refine' mem_t ?_) | (with_reducible refine' mem_r ?_)))); (case h1 => (first | ((refine' DatIn.mono ?s9 ?h9; (case h9 => (with_reducible assumption)); (case s9 => (repeat' (first | exact List.forall_mem_nil _ | (with_reducible refine List.forall_mem_cons.mpr ⟨?_, ?_⟩) | (with_reducible refine List.forall_mem_append.mpr ⟨?_, ?_⟩) | (with_reducible exact mem_h) | (with_reducible refine' mem_t ?_) | (with_reducible refine' mem_r ?_) | (intro e9 he9; exact (by (repeat' (first | with_reducible exact he9 | (with_reducible refine mem_t ?_) | (with_reducible exact mem_l he9) | (with_reducible refine mem_r ?_)))))))))) | (refine' mk_truth ?hm8; (case hm8 => (repeat' (first | (with_reducible exact mem_h) | (with_reducible refine' mem_t ?_) | (with_reducible refine' mem_r ?_))))))); (case h2 => (first | ((refine' DatIn.mono ?s9 ?h9; (case h9 => (with_reducible assumption)); (case s9 => (repeat' (first | exact List.forall_mem_nil _ | (with_reducible refine List.forall_mem_cons.mpr ⟨?_, ?_⟩) | (with_reducible refine List.forall_mem_append.mpr ⟨?_, ?_⟩) | (with_reducible exact mem_h) | (with_reducible refine' mem_t ?_) | (with_reducible refine' mem_r ?_) | (intro e9 he9; exact (by (repeat' (first | with_reducible exact he9 | (with_reducible refine mem_t ?_) | (with_reducible exact mem_l he9) | (with_reducible refine mem_r ?_)))))))))) | (refine' mk_truth ?hm8; (case hm8 => (repeat' (first | (with_reducible exact mem_h) | (with_reducible refine' mem_t ?_) | (with_reducible refine' mem_r ?_))))))); (case h3 => (first | ((refine' DatIn.mono ?s9 ?h9; (case h9 => (with_reducible assumption)); (case s9 => (repeat' (first | exact List.forall_mem_nil _ | (with_reducible refine List.forall_mem_cons.mpr ⟨?_, ?_⟩) | (with_reducible refine List.forall_mem_append.mpr ⟨?_, ?_⟩) | (with_reducible exact mem_h) | (with_reducible refine' mem_t ?_) | (with_reducible refine' mem_r ?_) | (intro e9 he9; exact (by (repeat' (first | with_reducible exact he9 | (with_reducible refine mem_t ?_) | (with_reducible exact mem_l he9) | (with_reducible refine mem_r ?_)))))))))) | (refine' mk_truth ?hm8; (case hm8 => (repeat' (first | (with_reducible exact mem_h) | (with_reducible refine' mem_t ?_) | (with_reducible refine' mem_r ?_))))))))
      | (refine' mk_vec ?hm9 ?hb9 (all_cons ?h1 (all_cons ?h2 (all_cons ?h3 (all_cons ?h4 all_nil)))); (case hm9 => (repeat' (first | (with_reducible exact mem_h) | (with_reducible refine' mem_t ?_) | (with_reducible refine' mem_r ?_)))); (case hb9 => (repeat' (first | (with_reducible exact mem_h) | (with_reducible refine' mem_t ?_) | (with_reducible refine' mem_r ?_)))); (case h1 => (first | ((refine' DatIn.mono ?s9 ?h9; (case h9 => (with_reducible assumption)); (case s9 => (repeat' (first | exact List.forall_mem_nil _ | (with_reducible refine List.forall_mem_cons.mpr ⟨?_, ?_⟩) | (with_reducible refine List.forall_mem_append.mpr ⟨?_, ?_⟩) | (with_reducible exact mem_h) | (with_reducible refine' mem_t ?_) | (with_reducible refine' mem_r ?_) | (intro e9 he9; exact (by (repeat' (first | with_reducible exact he9 | (with_reducible refine mem_t ?_) | (with_reducible exact mem_l he9) | (with_reducible refine mem_r ?_)))))))))) | (refine' mk_truth ?hm8; (case hm8 => (repeat' (first | (with_reducible exact mem_h) | (with_reducible refine' mem_t ?_) | (with_reducible refine' mem_r ?_))))))); (case h2 => (first | ((refine' DatIn.mono ?s9 ?h9; (case h9 => (with_reducible assumption)); (case s9 => (repeat' (first | exact List.forall_mem_nil _ | (with_reducible refine List.forall_mem_cons.mpr ⟨?_, ?_⟩) | (with_reducible refine List.forall_mem_append.mpr ⟨?_, ?_⟩) | (with_reducible exact mem_h) | (with_reducible refine' mem_t ?_) | (with_reducible refine' mem_r ?_) | (intro e9 he9; exact (by (repeat' (first | with_reducible exact he9 | (with_reducible refine mem_t ?_) | (with_reducible exact mem_l he9) | (with_reducible refine mem_r ?_)))))))))) | (refine' mk_truth ?hm8; (case hm8 => (repeat' (first | (with_reducible exact mem_h) | (with_reducible refine' mem_t ?_) | (with_reducible refine' mem_r ?_))))))); (case h3 => (first | ((refine' DatIn.mono ?s9 ?h9; (case h9 => (with_reducible assumption)); (case s9 => (repeat' (first | exact List.forall_mem_nil _ | (with_reducible refine List.forall_mem_cons.mpr ⟨?_, ?_⟩) | (with_reducible refine List.forall_mem_append.mpr ⟨?_, ?_⟩) | (with_reducible exact mem_h) | (with_reducible refine' mem_t ?_) | (with_reducible refine' mem_r ?_) | (intro e9 he9; exact (by (repeat' (first | with_reducible exact he9 | (with_reducible refine mem_t ?_) | (with_reducible exact mem_l he9) | (with_reducible refine mem_r ?_)))))))))) | (refine' mk_truth ?hm8; (case hm8 => (repeat' (first | (with_reducible exact mem_h) | (with_reducible refine' mem_t ?_) | (with_reducible refine' mem_r ?_))))))); (case h4 => (first | ((refine' DatIn.mono ?s9 ?h9; (case h9 => (with_reducible assumption)); (case s9 => (repeat' (first | exact List.forall_mem_nil _ | (with_reducible refine List.forall_mem_cons.mpr ⟨?_, ?_⟩) | (with_reducible refine List.forall_mem_append.mpr ⟨?_, ?_⟩) | (with_reducible exact mem_h) | (with_reducible refine' mem_t ?_) | (with_reducible refine' mem_r ?_) | (intro e9 he9; exact (by (repeat' (first | with_reducible exact he9 | (with_reducible refine mem_t ?_) | (with_reducible exact mem_l he9) | (with_reducible refine mem_r ?_)))))))))) | (refine' mk_truth ?hm8; (case hm8 => (repeat' (first | (with_reducible exact mem_h) | (with_reducible refine' mem_t ?_) | (with_reducible refine' mem_r ?_)))))))))
    (case ok => first
      | ((refine' Ok.mono ?a9 ?b9 ?c9; (case b9 => (with_reducible assumption)); (case a9 => decide); (case c9 => omega)))
      | (refine' .pair ?k1 ?k2; (case k1 => ((refine' Ok.mono ?a9 ?b9 ?c9; (case b9 => (with_reducible assumption)); (case a9 => decide); (case c9 => omega)))); (case k2 => ((refine' Ok.mono ?a9 ?b9 ?c9; (case b9 => (with_reducible assumption)); (case a9 => decide); (case c9 => omega)))))
      | (refine .vec (Nat.le_of_ble_eq_true rfl) ?_; (repeat' (first | exact List.forall_mem_nil _ | (refine List.forall_mem_cons.mpr ⟨?_, ?_⟩) | ((refine' Ok.mono ?a9 ?b9 ?c9; (case b9 => (with_reducible assumption)); (case a9 => decide); (case c9 => omega))) | exact .truth (by unfold BitOk; omega))))))
end
theorem all_un0 {news : List (Addr × Obj)} {vs : List Value} (h : DatAll news vs (List.map Pic.dat [])) : vs = [] := by cases h; rfl
theorem all_un1 {news : List (Addr × Obj)} {vs : List Value} {p : Pic} {ps : List Pic} (h : DatAll news vs (List.map Pic.dat (p :: ps))) : ∃ v vr, vs = v :: vr ∧ DatIn news v p.dat ∧ DatAll news vr (List.map Pic.dat ps) := by
  cases h with | cons h r => exact ⟨_, _, rfl, h, r⟩
section
variable {prog : Program} {w : World} {A : Around} {E : Value → Shared → Prop} {s : Shared} {h₀ : Heap} {L : Addr} {m : Str → Option Value} {news : List (Addr × Obj)}
def cutAt (lo hi : Option Int) (n : Nat) : Int × Int × Nat := ((Builtin.Slice.sliceAdjust lo hi 1 (n : Int)).1, 1, Builtin.Slice.slicePlaces (Builtin.Slice.sliceAdjust lo hi 1 (n : Int)).1 (Builtin.Slice.sliceAdjust lo hi 1 (n : Int)).2 1)
theorem sliceApplied_parts {sl : Addr} {vl vu : Value} {lo hi : Option Int} {n : Nat} {Q : Int × Int × Nat → Shared → Prop} (hs : s.heap.IsSliceOf sl vl vu .none) (pl : IsPart vl lo) (pu : IsPart vu hi) (h : Q (cutAt lo hi n) s) :
    wpAny (model prog w) A (Builtin.Slice.sliceApplied (.ref sl) (pure (n : Int))) Q E s := by
  obtain ⟨os, hos, hcs, hds⟩ := id hs
  unfold Builtin.Slice.sliceApplied Builtin.Slice.sliceFields
  refine wpAny_bind (wpAny_bind (wpAny_field hos hds (x := vl) rfl (wpAny_bind (wpAny_field hos hds (x := vu) rfl (wpAny_bind (wpAny_field hos hds (x := .none) rfl (wpAny_pure ?_)))))))
  refine wpAny_bind (slicePart_none ?_)
  show wpAny _ _ (if ((1 : Int) == 0) = true then _ else _) _ _ s
  rw [if_neg (by decide)]
  have fin : wpAny (model prog w) A (match Builtin.Slice.sliceAdjust lo hi 1 (n : Int) with | (lo, hi) => pure (lo, (1 : Int), Builtin.Slice.slicePlaces lo hi 1)) Q E s := wpAny_pure h
  cases pl <;> cases pu
  · exact wpAny_bind (slicePart_none (wpAny_bind (slicePart_none (wpAny_bind (wpAny_pure fin)))))
  · exact wpAny_bind (slicePart_none (wpAny_bind (slicePart_int (wpAny_bind (wpAny_pure fin)))))
  · exact wpAny_bind (slicePart_int (wpAny_bind (slicePart_none (wpAny_bind (wpAny_pure fin)))))
  · exact wpAny_bind (slicePart_int (wpAny_bind (slicePart_int (wpAny_bind (wpAny_pure fin)))))
def cutOf (l : List Value) (lo hi : Option Int) : List Value := (List.range (cutAt lo hi l.length).2.2).filterMap fun (k : Nat) => l[((cutAt lo hi l.length).1 + (k : Int) * 1).toNat]?
theorem getItem_tuple_cut {t sl : Addr} {l zs : List Value} {vl vu : Value} {lo hi : Option Int} {Q : Value → Shared → Prop} (ht : IsTup s.heap t l.toArray) (hs : s.heap.IsSliceOf sl vl vu .none) (pl : IsPart vl lo) (pu : IsPart vu hi)
    (hno : ((cutAt lo hi l.length).1 == 0 && (1 : Int) == 1 && (cutAt lo hi l.length).2.2 == l.length) = false) (e : cutOf l lo hi = zs) (hz : zs.length ≤ sizeLine)
    (h : Q (.ref s.heap.objs.size) { s with heap := s.heap.push { cls := .type "tuple", data := .seq zs.toArray } }) : wpAny (model prog w) A (getItem (.ref t) (.ref sl)) Q E s := by
  subst e
  have hdrop : sizeOk (.seq (cutOf l lo hi).toArray) := by
    show (cutOf l lo hi).toArray.size ≤ sizeLine
    rw [List.size_toArray]; exact hz
  obtain ⟨os, hos, hcs, hds⟩ := id hs
  have hTs : s.TypeIs (.ref sl) "slice" := ⟨os, hos, hcs⟩
  unfold getItem
  try with_reducible refine wpAny_holding ?_
  first | refine wpAny_bind (wpAny_pure ?_) | skip
  refine wpAny_bind (wpAny_sequenceKey ht.typeIs (by decide) ?_)
  refine wpAny_bind (wpAny_callSpecial?_slot (name := Str.ofString "__getitem__") ht.typeIs slot_tuple_getitem
    (wpAny_call_entry slot_tuple_getitem ht.typeIs entry_tuple_getitem ?_ (args_tuple_getitem _ _)))
  show wpAny _ _ (Builtin.Tuple.tupleItemsOf (.ref t) >>= _) _ _ s
  refine wpAny_bind (tupleItemsOf_ ht ?_)
  refine wpAny_bind (wpAny_typeOf hTs ?_)
  rw [if_pos (by decide)]
  rw [List.size_toArray]
  refine wpAny_bind (sliceApplied_parts hs pl pu ?_)
  show wpAny _ _ (if ((cutAt lo hi l.length).1 == 0 && (1 : Int) == 1 && (cutAt lo hi l.length).2.2 == l.length) = true then _ else _) _ _ s
  rw [if_neg (by rw [hno]; exact Bool.false_ne_true)]
  have h2 : Q (.ref s.heap.objs.size) { s with heap := s.heap.push { cls := .type "tuple", data := .seq ((List.range (cutAt lo hi l.length).2.2).filterMap fun (k : Nat) => l.toArray[((cutAt lo hi l.length).1 + (k : Int) * 1).toNat]?).toArray } } := by
    have : (fun (k : Nat) => l.toArray[((cutAt lo hi l.length).1 + (k : Int) * 1).toNat]?) = fun (k : Nat) => l[((cutAt lo hi l.length).1 + (k : Int) * 1).toNat]? := by
      funext k; rw [List.getElem?_toArray]
    rw [this]; exact h
  have hd2 : sizeOk (.seq ((List.range (cutAt lo hi l.length).2.2).filterMap fun (k : Nat) => l.toArray[((cutAt lo hi l.length).1 + (k : Int) * 1).toNat]?).toArray) := by
    have : (fun (k : Nat) => l.toArray[((cutAt lo hi l.length).1 + (k : Int) * 1).toNat]?) = fun (k : Nat) => l[((cutAt lo hi l.length).1 + (k : Int) * 1).toNat]? := by
      funext k; rw [List.getElem?_toArray]
    rw [this]; exact hdrop
  first
    | exact wpAny_bind (m := Builtin.Tuple.tupleExact _) (wpAny_newObj_type (wpAny_pure ⟨_, rfl, wpAny_pure h2⟩) hd2)
    | exact wpAny_bind (m := Builtin.Tuple.tupleExact _) (wpAny_newObj_type (wpAny_bind (wpAny_pure (wpAny_pure ⟨_, rfl, wpAny_pure h2⟩))) hd2)
    | exact wpAny_bind (wpAny_bind (m := Builtin.Tuple.tupleExact _) (wpAny_newObj_type (wpAny_pure (wpAny_pure ⟨_, rfl, wpAny_pure h2⟩)) hd2))
    | exact wpAny_bind (wpAny_bind (m := Builtin.Tuple.tupleExact _) (wpAny_newObj_type (wpAny_pure ⟨_, rfl, wpAny_pure h2⟩) hd2))
theorem getItem_tuple_all {t sl : Addr} {l : List Value} {vl vu : Value} {lo hi : Option Int} {Q : Value → Shared → Prop} (ht : IsTup s.heap t l.toArray) (hs : s.heap.IsSliceOf sl vl vu .none) (pl : IsPart vl lo) (pu : IsPart vu hi)
    (hno : ((cutAt lo hi l.length).1 == 0 && (1 : Int) == 1 && (cutAt lo hi l.length).2.2 == l.length) = true)
    (h : Q (.ref t) s) : wpAny (model prog w) A (getItem (.ref t) (.ref sl)) Q E s := by
  obtain ⟨os, hos, hcs, hds⟩ := id hs
  have hTs : s.TypeIs (.ref sl) "slice" := ⟨os, hos, hcs⟩
  unfold getItem
  try with_reducible refine wpAny_holding ?_
  first | refine wpAny_bind (wpAny_pure ?_) | skip
  refine wpAny_bind (wpAny_sequenceKey ht.typeIs (by decide) ?_)
  refine wpAny_bind (wpAny_callSpecial?_slot (name := Str.ofString "__getitem__") ht.typeIs slot_tuple_getitem
    (wpAny_call_entry slot_tuple_getitem ht.typeIs entry_tuple_getitem ?_ (args_tuple_getitem _ _)))
  show wpAny _ _ (Builtin.Tuple.tupleItemsOf (.ref t) >>= _) _ _ s
  refine wpAny_bind (tupleItemsOf_ ht ?_)
  refine wpAny_bind (wpAny_typeOf hTs ?_)
  rw [if_pos (by decide)]
  rw [List.size_toArray]
  refine wpAny_bind (sliceApplied_parts hs pl pu ?_)
  show wpAny _ _ (if ((cutAt lo hi l.length).1 == 0 && (1 : Int) == 1 && (cutAt lo hi l.length).2.2 == l.length) = true then _ else _) _ _ s
  rw [if_pos hno]
  unfold Builtin.Tuple.tupleIsExact
  refine wpAny_bind (wpAny_bind (wpAny_typeOf ht.typeIs (wpAny_pure ?_)))
  show wpAny _ _ (if (Value.type "tuple" == Value.type "tuple") = true then _ else _) _ _ s
  rw [if_pos (by decide)]
  exact wpAny_bind (wpAny_rule (wpAny_pure ⟨_, rfl, wpAny_pure h⟩))
theorem tup_cut {value slice : Expr} {t : Addr} {l zs : List Value} {n : Nat} {vl vu : Value} {lo hi : Option Int} {Q : Value → Shared → Prop}
    (F : Fr h₀ L s.heap m) (N : News h₀ L s.heap news) (hm : (t, tupOf l n) ∈ news) (pl : IsPart vl lo) (pu : IsPart vu hi)
    (hno : ((cutAt lo hi l.length).1 == 0 && (1 : Int) == 1 && (cutAt lo hi l.length).2.2 == l.length) = false) (e0 : cutOf l lo hi = kms_pick l lo hi) (e1 : kms_pick l lo hi = zs) (hz : zs.length ≤ sizeLine)
    (h : ∀ D h', Fr h₀ L h' m → News h₀ L h' ((D, ({ cls := .type "tuple", data := .seq zs.toArray } : Obj)) :: news) → (∀ p ∈ news, p.1 < D) → Q (.ref D) { s with heap := h' })
    (hs : subscripted slice false (.ref t) (.ref s.heap.objs.size) = operate [.ref s.heap.objs.size, .ref t] (getItem (.ref t) (.ref s.heap.objs.size)))
    (hg : ∀ r, letTemporaryGo value (.ref t) r = pure ()) :
    wpAny (model prog w) A (subscriptTail value slice (.ref t) (.ref s.heap.objs.size)) Q E { s with heap := s.heap.push { cls := .type "slice", data := .fields #[vl, vu, .none] } } := by
  have ht : IsTup s.heap t l.toArray := News.isTup N hm
  have ht' : IsTup (s.heap.push { cls := .type "slice", data := .fields #[vl, vu, .none] }) t l.toArray := ht.keeps fun _ _ e => Heap.get?_push_of_some _ e
  refine subscriptTail_ops (s := { s with heap := s.heap.push { cls := .type "slice", data := .fields #[vl, vu, .none] } }) ht'.typeIs slot_tuple_getitem.lookup
    (getItem_tuple_cut ht' (Heap.IsSliceOf.new ..) pl pu hno (e0.trans e1) hz ?_) hs hg
  have N1 := News.push (F.push { cls := .type "slice", data := .fields #[vl, vu, .none] }) (N.grown fun _ _ e => Heap.get?_push_of_some _ e) { cls := .type "tuple", data := .seq zs.toArray }
  rw [Heap.size_push] at N1
  show Q (.ref (s.heap.push _).objs.size) _
  rw [Heap.size_push]
  exact h _ _ ((F.push _).push _) N1 fun p hp => Nat.lt_succ_of_lt (Heap.lt_size (N p hp).1)
theorem tup_all {value slice : Expr} {t : Addr} {l : List Value} {n : Nat} {vl vu : Value} {lo hi : Option Int} {Q : Value → Shared → Prop}
    (F : Fr h₀ L s.heap m) (N : News h₀ L s.heap news) (hm : (t, tupOf l n) ∈ news) (pl : IsPart vl lo) (pu : IsPart vu hi)
    (hno : ((cutAt lo hi l.length).1 == 0 && (1 : Int) == 1 && (cutAt lo hi l.length).2.2 == l.length) = true)
    (h : ∀ h', Fr h₀ L h' m → News h₀ L h' news → Q (.ref t) { s with heap := h' })
    (hs : subscripted slice false (.ref t) (.ref s.heap.objs.size) = operate [.ref s.heap.objs.size, .ref t] (getItem (.ref t) (.ref s.heap.objs.size)))
    (hg : ∀ r, letTemporaryGo value (.ref t) r = pure ()) :
    wpAny (model prog w) A (subscriptTail value slice (.ref t) (.ref s.heap.objs.size)) Q E { s with heap := s.heap.push { cls := .type "slice", data := .fields #[vl, vu, .none] } } := by
  have ht : IsTup s.heap t l.toArray := News.isTup N hm
  have ht' : IsTup (s.heap.push { cls := .type "slice", data := .fields #[vl, vu, .none] }) t l.toArray := ht.keeps fun _ _ e => Heap.get?_push_of_some _ e
  refine subscriptTail_ops (s := { s with heap := s.heap.push { cls := .type "slice", data := .fields #[vl, vu, .none] } }) ht'.typeIs slot_tuple_getitem.lookup
    (getItem_tuple_all ht' (Heap.IsSliceOf.new ..) pl pu hno ?_) hs hg
  exact h _ (F.push _) (N.grown fun _ _ e => Heap.get?_push_of_some _ e)
theorem tup_itemJ {value slice : Expr} {Q : Value → Shared → Prop} {ax : Addr} {n : Nat} {k : Int} {u : Tok} {x : Value} {l : List Value} {j : Nat} (N : News h₀ L s.heap news) (hm : (ax, tupOf l n) ∈ news) (hlo : -(2 ^ 63) ≤ k) (hhi : k < 2 ^ 63) (hj : seqIndex? k l.length = some j) (hx : l[j]? = some x) (h : Q x s)
    (hs : subscripted slice false (.ref ax) (.int k u) = operate [.ref ax, .int k u] (getItem (.ref ax) (.int k u)) := by with_unfolding_all rfl) :
    wpAny (model prog w) A (subscriptTail value slice (.ref ax) (.int k u)) Q E s :=
  item_tupleT (News.isTup N hm) hlo hhi hj hx h hs
theorem tup_add {t b : Addr} {vs ws zs : List Value} {n n2 : Nat} {Q : Value → Shared → Prop} (F : Fr h₀ L s.heap m) (N : News h₀ L s.heap news) (ht : (t, tupOf vs n) ∈ news) (hb : (b, tupOf ws n2) ∈ news) (hv : vs ≠ []) (hw : ws ≠ []) (hz : vs.length + ws.length ≤ 16384) (e : vs ++ ws = zs)
    (h : ∀ D h', Fr h₀ L h' m → News h₀ L h' ((D, ({ cls := .type "tuple", data := .seq zs.toArray } : Obj)) :: news) → (∀ p ∈ news, p.1 < D) → Q (.ref D) { s with heap := h' }) : wpAny (model prog w) A (binaryOp .Add (.ref t) (.ref b)) Q E s :=
  kde_addT F N (News.isTup N ht) (News.isTup N hb) hv hw hz e h
theorem tup_add0 {t b : Addr} {ws : List Value} {n n2 : Nat} {Q : Value → Shared → Prop} (F : Fr h₀ L s.heap m) (N : News h₀ L s.heap news) (ht : (t, tupOf [] n) ∈ news) (hb : (b, tupOf ws n2) ∈ news) (hz : ws.length ≤ 16384) (h : Q (.ref b) s) : wpAny (model prog w) A (binaryOp .Add (.ref t) (.ref b)) Q E s :=
  kde_addT0 F N (News.isTup N ht) (News.isTup N hb) rfl (by simpa using hz) h
theorem tup_add1 {t b : Addr} {vs : List Value} {n n2 : Nat} {Q : Value → Shared → Prop} (F : Fr h₀ L s.heap m) (N : News h₀ L s.heap news) (ht : (t, tupOf vs n) ∈ news) (hb : (b, tupOf [] n2) ∈ news) (hv : vs ≠ []) (hz : vs.length ≤ 16384) (h : Q (.ref t) s) : wpAny (model prog w) A (binaryOp .Add (.ref t) (.ref b)) Q E s :=
  kde_addT1 F N (News.isTup N ht) (News.isTup N hb) hv rfl (by simpa using hz) h
end
theorem dat_get {news : List (Addr × Obj)} : ∀ {vs : List Value} {ps : List Pic} {j : Nat} {x : Value}, DatAll news vs (ps.map Pic.dat) → vs[j]? = some x → ∃ p, p ∈ ps ∧ DatIn news x p.dat
  | [], _, _, _, _, h => by simp at h
  | _ :: _, [], _, _, hv, _ => nomatch hv
  | v :: vs, p :: ps, 0, x, .cons h _, e => ⟨p, .head _, by simp at e; exact e ▸ h⟩
  | v :: vs, p :: ps, j + 1, x, .cons _ r, e => by
    obtain ⟨q, hq, hd⟩ := dat_get (ps := ps) r (by simpa using e)
    exact ⟨q, .tail _ hq, hd⟩
theorem all_take {news : List (Addr × Obj)} : ∀ {vs : List Value} {ps : List Pic} (j : Nat), DatAll news vs (ps.map Pic.dat) → DatAll news (vs.take j) ((ps.take j).map Pic.dat)
  | _, _, 0, _ => by simp; exact .nil
  | [], [], _ + 1, _ => by simp; exact .nil
  | _ :: _, _ :: ps, j + 1, .cons h r => .cons h (all_take (ps := ps) j r)
  | [], _ :: _, _ + 1, h => nomatch h
  | _ :: _, [], _ + 1, h => nomatch h
theorem all_drop {news : List (Addr × Obj)} : ∀ {vs : List Value} {ps : List Pic} (j : Nat), DatAll news vs (ps.map Pic.dat) → DatAll news (vs.drop j) ((ps.drop j).map Pic.dat)
  | _, _, 0, h => h
  | [], [], _ + 1, _ => by simp; exact .nil
  | _ :: _, _ :: ps, j + 1, .cons _ r => all_drop (ps := ps) j r
  | [], _ :: _, _ + 1, h => nomatch h
  | _ :: _, [], _ + 1, h => nomatch h
theorem all_put {news : List (Addr × Obj)} {vs : List Value} {ps : List Pic} {r : Value} {p : Pic} (j k : Nat) (h : DatAll news vs (ps.map Pic.dat)) (hr : DatIn news r p.dat) : DatAll news ((vs.take j ++ [r]) ++ vs.drop k) (((ps.take j ++ [p]) ++ ps.drop k).map Pic.dat) := by
  rw [List.map_append, List.map_append]
  exact DatAll.append (DatAll.append (all_take j h) (.cons hr .nil)) (all_drop k h)
theorem all_init {news : List (Addr × Obj)} {vs : List Value} {ps : List Pic} (h : DatAll news vs (ps.map Pic.dat)) : DatAll news vs.dropLast (ps.dropLast.map Pic.dat) := by
  have e := h.length
  rw [List.length_map] at e
  rw [List.dropLast_eq_take, List.dropLast_eq_take, e]
  exact all_take _ h
theorem all_add {news : List (Addr × Obj)} {vs ws : List Value} {ps qs : List Pic} (h : DatAll news vs (ps.map Pic.dat)) (k : DatAll news ws (qs.map Pic.dat)) : DatAll news (vs ++ ws) ((ps ++ qs).map Pic.dat) := by
  rw [List.map_append]; exact DatAll.append h k
theorem ok_put {n : Nat} {ps : List Pic} {p : Pic} {j : Nat} (hl : ps.length ≤ 3) (hj : j < ps.length) (ho : ∀ q ∈ ps, Ok 3 n q) (hp : Ok 4 (n + 1) p) : Ok 4 (n + 1 + 1) (.vec ((ps.take j ++ [p]) ++ ps.drop (j + 1))) := by
  refine .vec (by simp; omega) fun q hq => ?_
  rcases List.mem_append.mp hq with hq | hq
  · rcases List.mem_append.mp hq with hq | hq
    · exact (ho q (List.mem_of_mem_take hq)).mono (by decide) (by omega)
    · rw [List.mem_singleton.mp hq]; exact hp
  · exact (ho q (List.mem_of_mem_drop hq)).mono (by decide) (by omega)
theorem ok_init {n : Nat} {ps : List Pic} (hl : ps.length ≤ 3) (ho : ∀ q ∈ ps, Ok 3 n q) : Ok 4 (n + 1 + 1) (.vec ps.dropLast) :=
  .vec (by rw [List.length_dropLast]; omega) fun q hq => (ho q ((List.dropLast_sublist ps).subset hq)).mono (by decide) (by omega)
theorem ok_add {n : Nat} {ps : List Pic} (hl : ps.length ≤ 3) (ho : ∀ q ∈ ps, Ok 3 n q) : Ok 4 (n + 1 + 1) (.vec (ps ++ [.truth 1])) :=
  .vec (by rw [List.length_append, List.length_singleton]; omega) fun q hq => by
    rcases List.mem_append.mp hq with hq | hq
    · exact (ho q hq).mono (by decide) (by omega)
    · rw [List.mem_singleton.mp hq]; exact .truth (by unfold BitOk; omega)
def whole (l : List Value) (lo hi : Option Int) : Bool := (cutAt lo hi l.length).1 == 0 && (1 : Int) == 1 && (cutAt lo hi l.length).2.2 == l.length
theorem cut_to {l : List Value} {k : Int} (hl : l.length ≤ 3) (h0 : 0 ≤ k) (h1 : k < (l.length : Int)) : whole l none (some k) = false ∧ cutOf l none (some k) = kms_pick l none (some k) ∧ kms_pick l none (some k) = l.take k.toNat := by
  rcases l with _ | ⟨a, _ | ⟨b, _ | ⟨c, _ | ⟨d, r⟩⟩⟩⟩
  · simp at h1; omega
  · obtain rfl : k = 0 := by simp at h1; omega
    exact ⟨by with_unfolding_all rfl, by with_unfolding_all rfl, by with_unfolding_all rfl⟩
  · rcases (show k = 0 ∨ k = 1 by simp at h1; omega) with rfl | rfl <;> exact ⟨by with_unfolding_all rfl, by with_unfolding_all rfl, by with_unfolding_all rfl⟩
  · rcases (show k = 0 ∨ k = 1 ∨ k = 2 by simp at h1; omega) with rfl | rfl | rfl <;> exact ⟨by with_unfolding_all rfl, by with_unfolding_all rfl, by with_unfolding_all rfl⟩
  · simp at hl
theorem cut_from {l : List Value} {k : Int} (hl : l.length ≤ 3) (h0 : 0 ≤ k) (h1 : k < (l.length : Int)) : whole l (some (k + 1)) none = false ∧ cutOf l (some (k + 1)) none = kms_pick l (some (k + 1)) none ∧ kms_pick l (some (k + 1)) none = l.drop (k.toNat + 1) := by
  rcases l with _ | ⟨a, _ | ⟨b, _ | ⟨c, _ | ⟨d, r⟩⟩⟩⟩
  · simp at h1; omega
  · obtain rfl : k = 0 := by simp at h1; omega
    exact ⟨by with_unfolding_all rfl, by with_unfolding_all rfl, by with_unfolding_all rfl⟩
  · rcases (show k = 0 ∨ k = 1 by simp at h1; omega) with rfl | rfl <;> exact ⟨by with_unfolding_all rfl, by with_unfolding_all rfl, by with_unfolding_all rfl⟩
  · rcases (show k = 0 ∨ k = 1 ∨ k = 2 by simp at h1; omega) with rfl | rfl | rfl <;> exact ⟨by with_unfolding_all rfl, by with_unfolding_all rfl, by with_unfolding_all rfl⟩
  · simp at hl
theorem cut_init {l : List Value} (hl : l.length ≤ 3) (hn : l ≠ []) : whole l none (some (-1)) = false ∧ cutOf l none (some (-1)) = kms_pick l none (some (-1)) ∧ kms_pick l none (some (-1)) = l.dropLast := by
  rcases l with _ | ⟨a, _ | ⟨b, _ | ⟨c, _ | ⟨d, r⟩⟩⟩⟩
  · exact absurd rfl hn
  · exact ⟨by with_unfolding_all rfl, by with_unfolding_all rfl, by with_unfolding_all rfl⟩
  · exact ⟨by with_unfolding_all rfl, by with_unfolding_all rfl, by with_unfolding_all rfl⟩
  · exact ⟨by with_unfolding_all rfl, by with_unfolding_all rfl, by with_unfolding_all rfl⟩
  · simp at hl
section
variable {prog : Program} {w : World} {A : Around} {E : Value → Shared → Prop} {s : Shared} {h₀ : Heap} {L : Addr} {m : Str → Option Value} {news : List (Addr × Obj)} {Q : Value → Shared → Prop}
theorem tup_init {value slice : Expr} {t : Addr} {l : List Value} {n : Nat} {vl vu : Value}
    (F : Fr h₀ L s.heap m) (N : News h₀ L s.heap news) (hm : (t, tupOf l n) ∈ news) (pl : IsPart vl none) (pu : IsPart vu (some (-1))) (hl : l.length ≤ 3)
    (h : ∀ D h' tl, Fr h₀ L h' m → News h₀ L h' (tl ++ news) → (∃ k, (D, tupOf l.dropLast k) ∈ tl ++ news) → Over news tl → Q (.ref D) { s with heap := h' })
    (hs : subscripted slice false (.ref t) (.ref s.heap.objs.size) = operate [.ref s.heap.objs.size, .ref t] (getItem (.ref t) (.ref s.heap.objs.size)))
    (hg : ∀ r, letTemporaryGo value (.ref t) r = pure ()) :
    wpAny (model prog w) A (subscriptTail value slice (.ref t) (.ref s.heap.objs.size)) Q E { s with heap := s.heap.push { cls := .type "slice", data := .fields #[vl, vu, .none] } } := by
  by_cases hn : l = []
  · subst hn
    exact tup_all F N hm pl pu rfl (fun h' F' N' => h t h' [] F' N' ⟨n, hm⟩ Over.nil) hs hg
  · obtain ⟨e1, e2, e3⟩ := cut_init hl hn
    refine tup_cut F N hm pl pu e1 e2 e3 (by rw [List.length_dropLast, sizeLine_eq]; omega) (fun D h' F' N' lt => h D h' [(D, _)] F' N' ⟨_, .head _⟩ (Over.cons (fun e he => Nat.ne_of_lt (lt e he)) Over.nil)) hs hg
theorem tup_addU {t b : Addr} {vs ws : List Value} {n n2 : Nat} (F : Fr h₀ L s.heap m) (N : News h₀ L s.heap news) (ht : (t, tupOf vs n) ∈ news) (hb : (b, tupOf ws n2) ∈ news) (hz : vs.length + ws.length ≤ 16384)
    (h : ∀ D h' tl, Fr h₀ L h' m → News h₀ L h' (tl ++ news) → (∃ k, (D, tupOf (vs ++ ws) k) ∈ tl ++ news) → Over news tl → Q (.ref D) { s with heap := h' }) : wpAny (model prog w) A (binaryOp .Add (.ref t) (.ref b)) Q E s := by
  by_cases hv : vs = []
  · subst hv
    exact tup_add0 F N ht hb (by simpa using hz) (h b s.heap [] F N ⟨_, hb⟩ Over.nil)
  · by_cases hw : ws = []
    · subst hw
      exact tup_add1 F N ht hb hv (by simpa using hz) (h t s.heap [] F N ⟨_, by rw [List.append_nil]; exact ht⟩ Over.nil)
    · exact tup_add F N ht hb hv hw hz rfl fun D h' F' N' lt => h D h' [(D, _)] F' N' ⟨_, .head _⟩ (Over.cons (fun e he => Nat.ne_of_lt (lt e he)) Over.nil)
theorem tup_itemG {value slice : Expr} {ax : Addr} {n : Nat} {k : Int} {u : Tok} {l : List Value} (N : News h₀ L s.heap news) (hm : (ax, tupOf l n) ∈ news) (hl : l.length ≤ 3) (h0 : 0 ≤ k) (h1 : k < (l.length : Int)) (h : ∀ x, l[k.toNat]? = some x → Q x s)
    (hs : subscripted slice false (.ref ax) (.int k u) = operate [.ref ax, .int k u] (getItem (.ref ax) (.int k u)) := by with_unfolding_all rfl) :
    wpAny (model prog w) A (subscriptTail value slice (.ref ax) (.int k u)) Q E s :=
  tup_itemJ (j := k.toNat) N hm (by omega) (by omega) (by unfold seqIndex?; simp; omega) (List.getElem?_eq_getElem (by omega)) (h _ (List.getElem?_eq_getElem (by omega))) hs
theorem len_tupG {t : Addr} {l : List Value} {n : Nat} (N : News h₀ L s.heap news) (hm : (t, tupOf l n) ∈ news) (hl : l.length ≤ 3) (h : Q (.int (l.length : Int) (s.toks + 1)) { s with toks := s.toks + 1 + 1 }) : wpAny (model prog w) A (call (.builtin "len") [.ref t]) Q E s :=
  PyProof.Rows.len_tuple (News.isTup N hm) (by rw [List.size_toArray]; omega) (by rw [List.size_toArray]; exact h)
end
def TupSub (A B : List (Addr × Obj)) : Prop := ∀ (a : Addr) (l : List Value) (n : Nat), (a, tupOf l n) ∈ A → (a, tupOf l n) ∈ B
theorem TupSub.sub {A B : List (Addr × Obj)} (h : ∀ q ∈ A, q ∈ B) : TupSub A B := fun _ _ _ m => h _ m
theorem TupSub.app {A A' B : List (Addr × Obj)} (h : TupSub A B) (k : TupSub A' B) : TupSub (A ++ A') B := fun a l n m => (List.mem_append.mp m).elim (h a l n) (k a l n)
theorem TupSub.cons {x : Addr × Obj} {A B : List (Addr × Obj)} (h : x ∈ B) (k : TupSub A B) : TupSub (x :: A) B := fun a l n m => (List.mem_cons.mp m).elim (fun e => e ▸ h) (k a l n)
theorem TupSub.list {R : Addr} {vs : Array Value} {k : Nat} {A B : List (Addr × Obj)} (h : TupSub A B) : TupSub ((R, listOf vs k) :: A) B := fun a l n m => (List.mem_cons.mp m).elim (fun e => by
  have e2 : Value.type "tuple" = Value.type "list" := congrArg (fun q : Addr × Obj => q.2.cls) e
  exact absurd (Value.type.inj e2) (by decide)) (h a l n)
theorem TupSub.dict {prog : Program} {w : World} {D : Addr} {o : Obj} {es : List (Str × Value)} {A B : List (Addr × Obj)} (hd : o.IsDictOf (PySem.strKind prog w) es) (h : TupSub A B) : TupSub ((D, o) :: A) B := fun a l n m => (List.mem_cons.mp m).elim (fun e => by
  obtain ⟨_, _, _, hd, _⟩ := hd
  have e2 := congrArg (fun q : Addr × Obj => q.2.data) e
  dsimp only at e2
  rw [hd] at e2
  exact Data.noConfusion e2) (h a l n)
theorem tup_mem {A B : List (Addr × Obj)} {a : Addr} {l : List Value} {n : Nat} (h : (a, tupOf l n) ∈ A) (hs : TupSub A B) : (a, tupOf l n) ∈ B := hs _ _ _ h
theorem gt_all {x b : Addr} {o : Obj} {l : List (Addr × Obj)} (h : ∀ p ∈ l, @LT.lt Nat _ p.1 x) (m : (b, o) ∈ l) : x ≠ b := Nat.ne_of_gt (h _ m)
theorem lt_all {x : Addr} {l : List (Addr × Obj)} (h : ∀ p ∈ l, @LT.lt Nat _ p.1 x) {e : Addr × Obj} (m : e ∈ l) : @Ne Nat e.1 x := Nat.ne_of_lt (h _ m)
theorem all_ne {x b : Addr} {o : Obj} {l : List (Addr × Obj)} (h : AllLt x l) (m : (b, o) ∈ l) : x ≠ b := Nat.ne_of_gt (allLt_mem h _ m)
theorem j_lt {k : Int} {ps : List Pic} {vs : List Value} (h0 : 0 ≤ k) (h1 : k < (vs.length : Int)) (e : vs.length = ps.length) : k.toNat < ps.length := by omega
theorem many1 {ps : List Pic} {vs : List Value} (e : vs.length = ps.length) (h : ps ≠ []) : 1 ≤ (vs.length : Int) := by
  cases ps with
  | nil => exact absurd rfl h
  | cons p r => rw [e, List.length_cons]; omega
theorem ne_of_b {ps : List Pic} (h : (!ps.isEmpty) = true) : ps ≠ [] := by rintro rfl; simp at h
theorem ne_of_b2 {ps : List Pic} (h : ps.isEmpty = false) : ps ≠ [] := by rintro rfl; simp at h
section
variable {prog : Program} {w : World} {p : Program} {loose : List Str} {mean : ExcName → Option Value} {mg mb : Str → Option Value}
set_option maxHeartbeats 4000000 in
theorem turned_vec (C1 : PictureC prog w p loose mean mg mb 1) (n : Nat) (IH : TurnedC prog w p loose mean mg mb n) {dp un : Nat} {gd : Option (List Code)} {cn : Str} {cs : Scope} {a : Addr} {ccd : Value} {cl : List (Str × Addr)} {outer : List Env} {A₀ : Around} {base h₀ : Heap} {L : Addr} {m : Str → Option Value} {news : List (Addr × Obj)} {s : Shared} {Q E : Value → Shared → Prop}
    {d l : Addr} {mixed : Int} {t : Tok} {n1 n2 : Nat} {vals : List Value} {cells : List Int}
    {pa pb : Addr} {pk pk2 : Nat} {wt : Tok} {vs : List Value} {ps : List Pic}
    (B : Below A₀ base outer h₀) (F : Fr h₀ L s.heap m) (X : (Mine.hd.heap_39 w.params).In h₀)
    (N : News h₀ L s.heap ((d, listOf [Value.ref l, Value.int mixed t].toArray n1) :: (l, listOf vals.toArray n2) :: news))
    (T : Top p loose mean mg mb h₀) (hk : cs.kind = .function) (hd : dp + (n + 1 + 10) < recursionLimit) (hu : un + (20 * (n + 1) + 500) < cLine)
    (hdl : @Ne Nat d l) (hod : ∀ p ∈ news, p.1 ≠ d) (hol : ∀ p ∈ news, p.1 ≠ l)
    (hI : IntsAre vals cells) (hc : CellsOk cells) (hm0 : 0 ≤ mixed) (hm1 : mixed < 2147483647) (hpm : (pa, tupOf [.str (Str.ofString "vector") wt, .ref pb] pk) ∈ news) (hpm2 : (pb, tupOf vs pk2) ∈ news) (hn20 : n ≤ 20) (hvs : DatAll news vs (ps.map Pic.dat)) (hlen : ps.length ≤ 3) (hos : ∀ p ∈ ps, Ok 3 n p) (hdat : DatIn news (.ref pa) (Pic.vec ps).dat) (hok : Ok 3 (n + 1) (Pic.vec ps))
    (ret : ∀ (r : Value) (pic' : Pic) mixed' t' n1' vals' cells' n2' tl h' tk', Ok 4 (n + 1 + 1) pic' → DatIn (tl ++ news) r pic'.dat → Over news tl → (∀ q ∈ tl, q.1 ≠ d) → (∀ q ∈ tl, q.1 ≠ l) → IntsAre vals' cells' → CellsOk cells' → 0 ≤ mixed' → mixed' < 2147483647 →
      Fr h₀ L h' m → News h₀ L h' ((d, listOf [Value.ref l, Value.int mixed' t'].toArray n1') :: (l, listOf vals'.toArray n2') :: (tl ++ news)) → Q r { s with heap := h', toks := tk' }) :
    wpAny (model prog w) (ktrTop dp un gd cn cs L a ccd cl outer) (call (.ref 470) [.ref d, .ref pa]) Q E s := by
  w_top off
  k_with_none
  (k_with "call ref" => (
  k_here
  (with_reducible show wpAny _ _ (call (Value.ref 451) _) _ _ _)
  k_dflt (
  refine' draw_use ?kB ?kF ?kX ?kN ?p1 ?p2 ?kT ?kk ?kd ?ku ?dl ?od ?ol ?I ?c ?m0 ?m1 ?h1 ?h2 ?_
  (case kB => k_asm)
  (case kF => k_asm)
  (case kX => k_asm)
  (case kN => k_asm)
  (case kT => k_asm)
  (case p1 => ((repeat' (first | (with_reducible exact Pick.head) | (with_reducible refine' Pick.tail ?_) | (with_reducible refine' Pick.app ?_))); done))
  (case p2 => ((repeat' (first | (with_reducible exact Pick.head) | (with_reducible refine' Pick.tail ?_) | (with_reducible refine' Pick.app ?_))); done))
  (case kk => first | exact rfl | assumption)
  (case kd => first | exact room_td (by with_reducible assumption) | exact room_ts (by with_reducible assumption) | ktr_room)
  (case ku => first | exact units_td (by with_reducible assumption) | exact units_ts (by with_reducible assumption) | ktr_units)
  (case dl => assumption)
  (case od => (repeat' (first | (with_reducible assumption) | exact List.forall_mem_nil _ | (with_reducible refine List.forall_mem_cons.mpr ⟨?_, ?_⟩) | (with_reducible refine List.forall_mem_append.mpr ⟨?_, ?_⟩) | (first | exact gt_ne (by with_reducible assumption) | exact off_I (by with_reducible assumption) (by (repeat' (first | (with_reducible exact mem_h) | (with_reducible refine mem_t ?_) | (with_reducible refine mem_r ?_)))) | exact off_C (by with_reducible assumption) (by (repeat' (first | (with_reducible exact mem_h) | (with_reducible refine mem_t ?_) | (with_reducible refine mem_r ?_)))) | exact off_D (by with_reducible assumption) (by (repeat' (first | (with_reducible exact mem_h) | (with_reducible refine mem_t ?_) | (with_reducible refine mem_r ?_)))) | exact off_1 (by with_reducible assumption) (by (repeat' (first | (with_reducible exact mem_h) | (with_reducible refine mem_t ?_) | (with_reducible refine mem_r ?_)))) | k_ne) | assumption)))
  (case ol => (repeat' (first | (with_reducible assumption) | exact List.forall_mem_nil _ | (with_reducible refine List.forall_mem_cons.mpr ⟨?_, ?_⟩) | (with_reducible refine List.forall_mem_append.mpr ⟨?_, ?_⟩) | (first | exact gt_ne (by with_reducible assumption) | exact off_I (by with_reducible assumption) (by (repeat' (first | (with_reducible exact mem_h) | (with_reducible refine mem_t ?_) | (with_reducible refine mem_r ?_)))) | exact off_C (by with_reducible assumption) (by (repeat' (first | (with_reducible exact mem_h) | (with_reducible refine mem_t ?_) | (with_reducible refine mem_r ?_)))) | exact off_D (by with_reducible assumption) (by (repeat' (first | (with_reducible exact mem_h) | (with_reducible refine mem_t ?_) | (with_reducible refine mem_r ?_)))) | exact off_1 (by with_reducible assumption) (by (repeat' (first | (with_reducible exact mem_h) | (with_reducible refine mem_t ?_) | (with_reducible refine mem_r ?_)))) | k_ne) | assumption)))
  (case I => assumption)
  (case c => assumption)
  (case m0 => assumption)
  (case m1 => assumption)
  (case h1 => first | decide | exact many1 hlen9 (by first | exact ne_of_b (by assumption) | exact ne_of_b2 (by assumption)))
  (case h2 => first | decide | omega)
  k_whole
  intro v9 tv9 mixed' t' n1' vals' cells' n2' h' tk' hv0 hv1 hI' hc' hm0' hm1' F' N'
  (try k_sweep)
  (try dsimp only)
  (try k_fold))))
  (k_with "newList" => (k_here; k_dflt (refine' newList_K ?k1 ?k2 ?_; (case k1 => k_asm); (case k2 => k_asm); k_whole); intro l' h' F' N' l1; (try k_lt l1); (iterate 24 (try (obtain ⟨_, l1⟩ := l1))); (try k_sweep)))
  (k_with "newTuple" => (k_here; k_dflt (refine' kup_newTuple ?F ?N ?_ ?z; (case F => k_asm); (case N => k_asm); (case z => kmk_size)); intro D' h' F' N' l1; (try k_lt l1); (iterate 24 (try (obtain ⟨_, l1⟩ := l1))); (try k_sweep)))
  (k_with "call ref" => (
  k_here
  (with_reducible show wpAny _ _ (call (Value.ref 470) _) _ _ _)
  k_dflt (
  refine' IH ?kB ?kF ?kX ?kN ?p1 ?p2 ?kT ?kk ?kd ?ku ?dl ?od ?ol ?I ?c ?m0 ?m1 (DatIn.mono ?s9 hd9) (hos _ hp9) ?_
  (case kB => k_asm)
  (case kF => k_asm)
  (case kX => k_asm)
  (case kN => k_asm)
  (case kT => k_asm)
  (case p1 => ((repeat' (first | (with_reducible exact Pick.head) | (with_reducible refine' Pick.tail ?_) | (with_reducible refine' Pick.app ?_))); done))
  (case p2 => ((repeat' (first | (with_reducible exact Pick.head) | (with_reducible refine' Pick.tail ?_) | (with_reducible refine' Pick.app ?_))); done))
  (case kk => first | exact rfl | assumption)
  (case kd => first | exact room_td (by with_reducible assumption) | exact room_ts (by with_reducible assumption) | ktr_room)
  (case ku => first | exact units_td (by with_reducible assumption) | exact units_ts (by with_reducible assumption) | ktr_units)
  (case dl => assumption)
  (case od => (repeat' (first | (with_reducible assumption) | exact List.forall_mem_nil _ | (with_reducible refine List.forall_mem_cons.mpr ⟨?_, ?_⟩) | (with_reducible refine List.forall_mem_append.mpr ⟨?_, ?_⟩) | (first | exact gt_ne (by with_reducible assumption) | exact off_I (by with_reducible assumption) (by (repeat' (first | (with_reducible exact mem_h) | (with_reducible refine mem_t ?_) | (with_reducible refine mem_r ?_)))) | exact off_C (by with_reducible assumption) (by (repeat' (first | (with_reducible exact mem_h) | (with_reducible refine mem_t ?_) | (with_reducible refine mem_r ?_)))) | exact off_D (by with_reducible assumption) (by (repeat' (first | (with_reducible exact mem_h) | (with_reducible refine mem_t ?_) | (with_reducible refine mem_r ?_)))) | exact off_1 (by with_reducible assumption) (by (repeat' (first | (with_reducible exact mem_h) | (with_reducible refine mem_t ?_) | (with_reducible refine mem_r ?_)))) | k_ne) | assumption)))
  (case ol => (repeat' (first | (with_reducible assumption) | exact List.forall_mem_nil _ | (with_reducible refine List.forall_mem_cons.mpr ⟨?_, ?_⟩) | (with_reducible refine List.forall_mem_append.mpr ⟨?_, ?_⟩) | (first | exact gt_ne (by with_reducible assumption) | exact off_I (by with_reducible assumption) (by (repeat' (first | (with_reducible exact mem_h) | (with_reducible refine mem_t ?_) | (with_reducible refine mem_r ?_)))) | exact off_C (by with_reducible assumption) (by (repeat' (first | (with_reducible exact mem_h) | (with_reducible refine mem_t ?_) | (with_reducible refine mem_r ?_)))) | exact off_D (by with_reducible assumption) (by (repeat' (first | (with_reducible exact mem_h) | (with_reducible refine mem_t ?_) | (with_reducible refine mem_r ?_)))) | exact off_1 (by with_reducible assumption) (by (repeat' (first | (with_reducible exact mem_h) | (with_reducible refine mem_t ?_) | (with_reducible refine mem_r ?_)))) | k_ne) | assumption)))
  (case I => assumption)
  (case c => assumption)
  (case m0 => assumption)
  (case m1 => assumption)
  (case s9 => ((repeat' (first | exact List.forall_mem_nil _ | (with_reducible refine List.forall_mem_cons.mpr ⟨?_, ?_⟩) | (with_reducible refine List.forall_mem_append.mpr ⟨?_, ?_⟩) | (with_reducible exact mem_h) | (with_reducible refine mem_t ?_) | (with_reducible exact mem_l (by with_reducible assumption)) | (with_reducible refine mem_r ?_) | (with_reducible assumption) | (intro e9 he9; ((repeat' (first | (with_reducible exact he9) | (with_reducible exact mem_l he9) | (with_reducible refine mem_t ?_) | (with_reducible refine mem_r ?_))); done)))); done))
  k_whole
  intro r9 pic9 mixed9 t9 n9 vals9 cells9 n9' tl9 h9 tk9 hok9 hdat9 hov9 htd9 htl9 hI9 hc9 hm09 hm19 F9 N9
  have hhr9 := hdat9.handed
  (try k_sweep)
  (try dsimp only)
  (try k_fold))))
  (k_with "subscriptTail" => (k_here; (with_reducible show wpAny _ _ (subscriptTail _ _ (Value.ref pb) (Value.int v9 _)) _ _ _); k_dflt (refine' tup_itemG ?N ?m hl39 hv0 hv1 ?_; (case N => k_asm); (case m => ((repeat' (first | (with_reducible exact mem_h) | (with_reducible refine mem_t ?_) | (with_reducible assumption) | (with_reducible exact mem_l (by with_reducible assumption)) | (with_reducible refine mem_r ?_))); done)); intro x9 hx9; obtain ⟨p9, hp9, hd9⟩ := dat_get hvs hx9; have hhx9 := hd9.handed)))
  (k_with "subscriptTail" => (k_here; (with_reducible show wpAny _ _ (subscriptTail _ _ (Value.ref pa) (Value.int 0 _)) _ _ _); k_dflt (refine' tup_item0 ?N ?m ?_; (case N => k_asm); (case m => ((repeat' (first | (with_reducible exact mem_h) | (with_reducible refine mem_t ?_) | (with_reducible assumption) | (with_reducible exact mem_l (by with_reducible assumption)) | (with_reducible refine mem_r ?_))); done)); k_whole)))
  (k_with "subscriptTail" => (k_here; (with_reducible show wpAny _ _ (subscriptTail _ _ (Value.ref pa) (Value.int 1 _)) _ _ _); k_dflt (refine' tup_itemJ ?N ?m ?lo ?hi ?j ?x ?_; (case N => k_asm); (case m => ((repeat' (first | (with_reducible exact mem_h) | (with_reducible refine mem_t ?_) | (with_reducible assumption) | (with_reducible exact mem_l (by with_reducible assumption)) | (with_reducible refine mem_r ?_))); done)); (case lo => decide); (case hi => decide); (case j => rfl); (case x => rfl); k_whole)))
  (k_with "call builtin:len" => (k_here; k_dflt (refine' len_tupG ?N ?m hl39 ?_; (case N => k_asm); (case m => ((repeat' (first | (with_reducible exact mem_h) | (with_reducible refine mem_t ?_) | (with_reducible assumption) | (with_reducible exact mem_l (by with_reducible assumption)) | (with_reducible refine mem_r ?_))); done)))))
  (k_with "binaryOp Add ref ref" => (k_here; (with_reducible show wpAny _ _ (binaryOp _ (Value.ref _) (Value.ref _)) _ _ _); k_dflt (refine' tup_addU ?k1 ?k2 ?k3 ?k4 ?k7 ?_; (case k1 => k_asm); (case k2 => k_asm); (case k3 => ((repeat' (first | (with_reducible exact mem_h) | (with_reducible refine mem_t ?_) | (with_reducible assumption) | (with_reducible exact mem_l (by with_reducible assumption)) | (with_reducible refine mem_r ?_))); done)); (case k4 => ((repeat' (first | (with_reducible exact mem_h) | (with_reducible refine mem_t ?_) | (with_reducible assumption) | (with_reducible exact mem_l (by with_reducible assumption)) | (with_reducible refine mem_r ?_))); done)); (case k7 => (simp only [List.length_append, List.length_take, List.length_drop, List.length_cons, List.length_nil]; omega)); k_whole; intro D9 h' tlu9 F' N' hmu9 hovu9; obtain ⟨ku9, hmu9⟩ := hmu9; (try k_sweep))))
  (k_with "subscriptTail Name Slice ref ref" => (k_here; (with_reducible show wpAny _ _ (subscriptTail _ (PySem.Expr.Slice _ _ none _) (Value.ref _) (Value.ref _)) _ _ _); k_dflt (first
  | (exfalso; omega)
  | (refine' tup_cut ?Fy9 ?Ny9 ?my9 ?py9 ?qy9 (cut_to hl39 hv0 hv1).1 (cut_to hl39 hv0 hv1).2.1 (cut_to hl39 hv0 hv1).2.2 ?zy9 ?_ ?sy9 ?ty9; (case Fy9 => k_asm); (case Ny9 => k_asm); (case my9 => ((repeat' (first | (with_reducible exact mem_h) | (with_reducible refine mem_t ?_) | (with_reducible assumption) | (with_reducible exact mem_l (by with_reducible assumption)) | (with_reducible refine mem_r ?_))); done)); (case py9 => kmk_part); (case qy9 => kmk_part); (case zy9 => (rw [List.length_take, sizeLine_eq]; omega)); (case sy9 => with_unfolding_all rfl); (case ty9 => kmk_pure); k_whole; intro D' h' F' N' l1; (try k_lt l1); (iterate 24 (try (obtain ⟨_, l1⟩ := l1))); (try k_sweep))
  | (refine' tup_cut ?Fy9 ?Ny9 ?my9 ?py9 ?qy9 (cut_from hl39 hv0 hv1).1 (cut_from hl39 hv0 hv1).2.1 (cut_from hl39 hv0 hv1).2.2 ?zy9 ?_ ?sy9 ?ty9; (case Fy9 => k_asm); (case Ny9 => k_asm); (case my9 => ((repeat' (first | (with_reducible exact mem_h) | (with_reducible refine mem_t ?_) | (with_reducible assumption) | (with_reducible exact mem_l (by with_reducible assumption)) | (with_reducible refine mem_r ?_))); done)); (case py9 => kmk_part); (case qy9 => kmk_part); (case zy9 => (rw [List.length_drop, sizeLine_eq]; omega)); (case sy9 => with_unfolding_all rfl); (case ty9 => kmk_pure); k_whole; intro D' h' F' N' l1; (try k_lt l1); (iterate 24 (try (obtain ⟨_, l1⟩ := l1))); (try k_sweep))
  | (refine' tup_init ?Fy9 ?Ny9 ?my9 ?py9 ?qy9 hl39 ?_ ?sy9 ?ty9; (case Fy9 => k_asm); (case Ny9 => k_asm); (case my9 => ((repeat' (first | (with_reducible exact mem_h) | (with_reducible refine mem_t ?_) | (with_reducible assumption) | (with_reducible exact mem_l (by with_reducible assumption)) | (with_reducible refine mem_r ?_))); done)); (case py9 => kmk_part); (case qy9 => kmk_part); (case sy9 => with_unfolding_all rfl); (case ty9 => kmk_pure); k_whole; intro D9 h' tlu9 F' N' hmu9 hovu9; obtain ⟨ku9, hmu9⟩ := hmu9; (try k_sweep)))))
  (k_with "compareOp NotEq ref ref" => (k_here; (with_reducible show wpAny _ _ (compareOp CmpOp.NotEq (Value.ref _) (Value.ref _)) _ _ _); k_dflt (refine' tup_ne_nil ?N ?a (DatAll.mono ?s9 hvs) ?b hos (by omega) ?u ?_; (case N => k_asm); (case a => ((repeat' (first | (with_reducible exact mem_h) | (with_reducible refine mem_t ?_) | (with_reducible assumption) | (with_reducible exact mem_l (by with_reducible assumption)) | (with_reducible refine mem_r ?_))); done)); (case b => ((repeat' (first | (with_reducible exact mem_h) | (with_reducible refine mem_t ?_) | (with_reducible assumption) | (with_reducible exact mem_l (by with_reducible assumption)) | (with_reducible refine mem_r ?_))); done)); (case s9 => ((repeat' (first | exact List.forall_mem_nil _ | (with_reducible refine List.forall_mem_cons.mpr ⟨?_, ?_⟩) | (with_reducible refine List.forall_mem_append.mpr ⟨?_, ?_⟩) | (with_reducible exact mem_h) | (with_reducible refine mem_t ?_) | (with_reducible exact mem_l (by with_reducible assumption)) | (with_reducible refine mem_r ?_) | (with_reducible assumption) | (intro e9 he9; ((repeat' (first | (with_reducible exact he9) | (with_reducible exact mem_l he9) | (with_reducible refine mem_t ?_) | (with_reducible refine mem_r ?_))); done)))); done)); (case u => exact units_te (by with_reducible assumption)); k_whole)))
  have hlen9 : vs.length = ps.length := by have := hvs.length; rw [List.length_map] at this; exact this
  have hl39 : vs.length ≤ 3 := by omega
  refine wpAny_call ?_
  k_dflt ktr_enter
  have hAL : True := trivial
  k_steps
  all_goals (
      (rename Fr _ _ _ _ => kF)
      (rename News _ _ _ _ => kN)
      (iterate 24 (try ((with_reducible rename _ ∧ _ => hh9); obtain ⟨_, _⟩ := hh9)))
      refine' ret _ _ _ _ _ _ _ _ _ _ _ ?ok (ret_dat ?tl ?dat) ?over ?od ?ol ?I ?c ?m0 ?m1 kF (ret_ledger kN ?p1 ?p2 ?tl)
      (case p1 => ((repeat' (first | (with_reducible exact Pick.head) | (with_reducible refine' Pick.tail ?_) | (with_reducible refine' Pick.app ?_))); done))
      (case p2 => ((repeat' (first | (with_reducible exact Pick.head) | (with_reducible refine' Pick.tail ?_) | (with_reducible refine' Pick.app ?_))); done))
      (case tl => ((repeat' (first | exact Tail.nil | (with_reducible refine' Tail.cons ?_) | (with_reducible refine' Tail.app ?_))); done))
      (case over => (repeat' (first | exact Over.nil | (with_reducible refine Over.cons ?_ ?_) | (with_reducible refine Over.app ?_ ?_) | exact apart_lt (by with_reducible assumption) | exact apart_lt (over_lt hAL (by omega)) | (intro e9 he9; exact apart_lt (by with_reducible assumption) e9 (by (repeat' (first | with_reducible exact he9 | (with_reducible refine mem_t ?_) | (with_reducible exact mem_l he9) | (with_reducible refine mem_r ?_))))) | (intro e9 he9; exact apart_off (by with_reducible assumption) e9 (by (repeat' (first | with_reducible exact he9 | (with_reducible refine mem_t ?_) | (with_reducible exact mem_l he9) | (with_reducible refine mem_r ?_))))) | (intro e9 he9; exact lt_all (by with_reducible assumption) (by (repeat' (first | with_reducible exact he9 | (with_reducible refine mem_t ?_) | (with_reducible exact mem_l he9) | (with_reducible refine mem_r ?_))))) | (intro q9 hq9 e9 he9; exact (by with_reducible assumption : Over _ _) q9 hq9 e9 (by (repeat' (first | with_reducible exact he9 | (with_reducible refine mem_t ?_) | (with_reducible exact mem_l he9) | (with_reducible refine mem_r ?_))))))))
      (case od => (repeat' (first | (with_reducible assumption) | exact List.forall_mem_nil _ | (with_reducible refine List.forall_mem_cons.mpr ⟨?_, ?_⟩) | (with_reducible refine List.forall_mem_append.mpr ⟨?_, ?_⟩) | (first | exact gt_ne (by with_reducible assumption) | exact Over.ne (by with_reducible assumption) (by (repeat' (first | (with_reducible exact mem_h) | (with_reducible refine mem_t ?_) | (with_reducible refine mem_r ?_)))) | exact gt_all (by with_reducible assumption) (by ((repeat' (first | (with_reducible exact mem_h) | (with_reducible refine mem_t ?_) | (with_reducible assumption) | (with_reducible exact mem_l (by with_reducible assumption)) | (with_reducible refine mem_r ?_))); done)) | exact all_ne (by with_reducible assumption) (by ((repeat' (first | (with_reducible exact mem_h) | (with_reducible refine mem_t ?_) | (with_reducible assumption) | (with_reducible exact mem_l (by with_reducible assumption)) | (with_reducible refine mem_r ?_))); done)) | exact off_I (by with_reducible assumption) (by (repeat' (first | (with_reducible exact mem_h) | (with_reducible refine mem_t ?_) | (with_reducible refine mem_r ?_)))) | exact off_C (by with_reducible assumption) (by (repeat' (first | (with_reducible exact mem_h) | (with_reducible refine mem_t ?_) | (with_reducible refine mem_r ?_)))) | exact off_D (by with_reducible assumption) (by (repeat' (first | (with_reducible exact mem_h) | (with_reducible refine mem_t ?_) | (with_reducible refine mem_r ?_)))) | exact off_1 (by with_reducible assumption) (by (repeat' (first | (with_reducible exact mem_h) | (with_reducible refine mem_t ?_) | (with_reducible refine mem_r ?_)))) | k_ne) | assumption)))
      (case ol => (repeat' (first | (with_reducible assumption) | exact List.forall_mem_nil _ | (with_reducible refine List.forall_mem_cons.mpr ⟨?_, ?_⟩) | (with_reducible refine List.forall_mem_append.mpr ⟨?_, ?_⟩) | (first | exact gt_ne (by with_reducible assumption) | exact Over.ne (by with_reducible assumption) (by (repeat' (first | (with_reducible exact mem_h) | (with_reducible refine mem_t ?_) | (with_reducible refine mem_r ?_)))) | exact gt_all (by with_reducible assumption) (by ((repeat' (first | (with_reducible exact mem_h) | (with_reducible refine mem_t ?_) | (with_reducible assumption) | (with_reducible exact mem_l (by with_reducible assumption)) | (with_reducible refine mem_r ?_))); done)) | exact all_ne (by with_reducible assumption) (by ((repeat' (first | (with_reducible exact mem_h) | (with_reducible refine mem_t ?_) | (with_reducible assumption) | (with_reducible exact mem_l (by with_reducible assumption)) | (with_reducible refine mem_r ?_))); done)) | exact off_I (by with_reducible assumption) (by (repeat' (first | (with_reducible exact mem_h) | (with_reducible refine mem_t ?_) | (with_reducible refine mem_r ?_)))) | exact off_C (by with_reducible assumption) (by (repeat' (first | (with_reducible exact mem_h) | (with_reducible refine mem_t ?_) | (with_reducible refine mem_r ?_)))) | exact off_D (by with_reducible assumption) (by (repeat' (first | (with_reducible exact mem_h) | (with_reducible refine mem_t ?_) | (with_reducible refine mem_r ?_)))) | exact off_1 (by with_reducible assumption) (by (repeat' (first | (with_reducible exact mem_h) | (with_reducible refine mem_t ?_) | (with_reducible refine mem_r ?_)))) | k_ne) | assumption)))
      (case I => assumption)
      (case c => assumption)
      (case m0 => assumption)
      (case m1 => assumption)
      (case dat => first
        | (refine' mk_vec ?hm9 ?hb9 (all_put v9.toNat (v9.toNat + 1) (DatAll.mono ?s1 hvs) (DatIn.mono ?s2 hdat9)); (case hm9 => ((repeat' (first | (with_reducible exact mem_h) | (with_reducible refine mem_t ?_) | (with_reducible assumption) | (with_reducible exact mem_l (by with_reducible assumption)) | (with_reducible refine mem_r ?_))); done)); (case hb9 => (refine tup_mem hmu9 ?_; ((repeat' (first | (with_reducible refine TupSub.app ?_ ?_) | (with_reducible refine TupSub.list ?_) | (with_reducible refine TupSub.cons ?_ ?_) | (with_reducible exact mem_h) | (with_reducible refine mem_t ?_) | (with_reducible exact mem_l (by with_reducible assumption)) | (with_reducible refine mem_r ?_) | (with_reducible assumption) | (refine TupSub.sub ?_; (intro e9 he9; ((repeat' (first | (with_reducible exact he9) | (with_reducible exact mem_l he9) | (with_reducible refine mem_t ?_) | (with_reducible refine mem_r ?_))); done))))); done))); (case s1 => ((repeat' (first | exact List.forall_mem_nil _ | (with_reducible refine List.forall_mem_cons.mpr ⟨?_, ?_⟩) | (with_reducible refine List.forall_mem_append.mpr ⟨?_, ?_⟩) | (with_reducible exact mem_h) | (with_reducible refine mem_t ?_) | (with_reducible exact mem_l (by with_reducible assumption)) | (with_reducible refine mem_r ?_) | (with_reducible assumption) | (intro e9 he9; ((repeat' (first | (with_reducible exact he9) | (with_reducible exact mem_l he9) | (with_reducible refine mem_t ?_) | (with_reducible refine mem_r ?_))); done)))); done)); (case s2 => ((repeat' (first | exact List.forall_mem_nil _ | (with_reducible refine List.forall_mem_cons.mpr ⟨?_, ?_⟩) | (with_reducible refine List.forall_mem_append.mpr ⟨?_, ?_⟩) | (with_reducible exact mem_h) | (with_reducible refine mem_t ?_) | (with_reducible exact mem_l (by with_reducible assumption)) | (with_reducible refine mem_r ?_) | (with_reducible assumption) | (intro e9 he9; ((repeat' (first | (with_reducible exact he9) | (with_reducible exact mem_l he9) | (with_reducible refine mem_t ?_) | (with_reducible refine mem_r ?_))); done)))); done)))
        | (refine' mk_vec ?hm9 ?hb9 (all_init (DatAll.mono ?s1 hvs)); (case hm9 => ((repeat' (first | (with_reducible exact mem_h) | (with_reducible refine mem_t ?_) | (with_reducible assumption) | (with_reducible exact mem_l (by with_reducible assumption)) | (with_reducible refine mem_r ?_))); done)); (case hb9 => (refine tup_mem hmu9 ?_; ((repeat' (first | (with_reducible refine TupSub.app ?_ ?_) | (with_reducible refine TupSub.list ?_) | (with_reducible refine TupSub.cons ?_ ?_) | (with_reducible exact mem_h) | (with_reducible refine mem_t ?_) | (with_reducible exact mem_l (by with_reducible assumption)) | (with_reducible refine mem_r ?_) | (with_reducible assumption) | (refine TupSub.sub ?_; (intro e9 he9; ((repeat' (first | (with_reducible exact he9) | (with_reducible exact mem_l he9) | (with_reducible refine mem_t ?_) | (with_reducible refine mem_r ?_))); done))))); done))); (case s1 => ((repeat' (first | exact List.forall_mem_nil _ | (with_reducible refine List.forall_mem_cons.mpr ⟨?_, ?_⟩) | (with_reducible refine List.forall_mem_append.mpr ⟨?_, ?_⟩) | (with_reducible exact mem_h) | (with_reducible refine mem_t ?_) | (with_reducible exact mem_l (by with_reducible assumption)) | (with_reducible refine mem_r ?_) | (with_reducible assumption) | (intro e9 he9; ((repeat' (first | (with_reducible exact he9) | (with_reducible exact mem_l he9) | (with_reducible refine mem_t ?_) | (with_reducible refine mem_r ?_))); done)))); done)))
        | (refine' mk_vec ?hm9 ?hb9 (all_add (DatAll.mono ?s1 hvs) (all_cons (mk_truth (i := 1) ?ht9) all_nil)); (case hm9 => ((repeat' (first | (with_reducible exact mem_h) | (with_reducible refine mem_t ?_) | (with_reducible assumption) | (with_reducible exact mem_l (by with_reducible assumption)) | (with_reducible refine mem_r ?_))); done)); (case hb9 => (refine tup_mem hmu9 ?_; ((repeat' (first | (with_reducible refine TupSub.app ?_ ?_) | (with_reducible refine TupSub.list ?_) | (with_reducible refine TupSub.cons ?_ ?_) | (with_reducible exact mem_h) | (with_reducible refine mem_t ?_) | (with_reducible exact mem_l (by with_reducible assumption)) | (with_reducible refine mem_r ?_) | (with_reducible assumption) | (refine TupSub.sub ?_; (intro e9 he9; ((repeat' (first | (with_reducible exact he9) | (with_reducible exact mem_l he9) | (with_reducible refine mem_t ?_) | (with_reducible refine mem_r ?_))); done))))); done))); (case s1 => ((repeat' (first | exact List.forall_mem_nil _ | (with_reducible refine List.forall_mem_cons.mpr ⟨?_, ?_⟩) | (with_reducible refine List.forall_mem_append.mpr ⟨?_, ?_⟩) | (with_reducible exact mem_h) | (with_reducible refine mem_t ?_) | (with_reducible exact mem_l (by with_reducible assumption)) | (with_reducible refine mem_r ?_) | (with_reducible assumption) | (intro e9 he9; ((repeat' (first | (with_reducible exact he9) | (with_reducible exact mem_l he9) | (with_reducible refine mem_t ?_) | (with_reducible refine mem_r ?_))); done)))); done)); (case ht9 => ((repeat' (first | (with_reducible exact mem_h) | (with_reducible refine mem_t ?_) | (with_reducible assumption) | (with_reducible exact mem_l (by with_reducible assumption)) | (with_reducible refine mem_r ?_))); done))))
      (case ok => first
        | exact ok_put hlen (j_lt hv0 hv1 hlen9) hos hok9
        | exact ok_init hlen hos
        | exact ok_add hlen hos))
end
section
variable {prog : Program} {w : World} {p : Program} {loose : List Str} {mean : ExcName → Option Value} {mg mb : Str → Option Value}
theorem ne_words (a b : String) (h : decide (Str.ofString a = Str.ofString b) = false) : Str.ofString a ≠ Str.ofString b := of_decide_eq_false h
theorem turned_some (n : Nat) (C1 : PictureC prog w p loose mean mg mb 1) (hn : n ≤ 20) (IH : ∀ k, k + 1 = n → TurnedC prog w p loose mean mg mb k) : TurnedC prog w p loose mean mg mb n := by
  intro dp un gd cn cs a ccd cl outer A₀ base h₀ L m news s Q E d l mixed t n1 n2 vals cells v pic nw nw1 B F X N p1 p2 T hk hd hu hdl hod hol hI hc hm0 hm1 hdat hok ret
  replace N := p1.news2 p2 N
  have go : ∀ {wd : Str} {wt : Tok} {pa : Addr} {pk : Nat} {more : List Value}, v = .ref pa → (pa, tupOf (.str wd wt :: more) pk) ∈ news → wd ≠ Str.ofString "pair" → wd ≠ Str.ofString "vector" →
      wpAny (model prog w) (ktrTop dp un gd cn cs L a ccd cl outer) (call (.ref 470) [.ref d, v]) Q E s := by
    intro wd wt pa pk more e hm h1 h2
    subst e
    exact turned_leaf C1 n B F X N T hk hd hu hdl hod hol hI hc hm0 hm1 hm h1 h2 hdat hok ret
  cases hok with
  | num h => obtain ⟨_, _, _, _, _, e, hm⟩ := in_num hdat; exact go e hm (ne_words _ _ (by decide +kernel)) (ne_words _ _ (by decide +kernel))
  | truth h => obtain ⟨_, _, _, _, e, hm⟩ := in_truth hdat; exact go e hm (ne_words _ _ (by decide +kernel)) (ne_words _ _ (by decide +kernel))
  | char h => obtain ⟨_, _, _, _, e, hm⟩ := in_char hdat; exact go e hm (ne_words _ _ (by decide +kernel)) (ne_words _ _ (by decide +kernel))
  | sym h => obtain ⟨_, _, _, _, e, hm⟩ := in_sym hdat; exact go e hm (ne_words _ _ (by decide +kernel)) (ne_words _ _ (by decide +kernel))
  | str h h' => obtain ⟨_, _, _, _, e, hm⟩ := in_str hdat; exact go e hm (ne_words _ _ (by decide +kernel)) (ne_words _ _ (by decide +kernel))
  | empty => obtain ⟨_, _, _, e, hm⟩ := in_empty hdat; exact go e hm (ne_words _ _ (by decide +kernel)) (ne_words _ _ (by decide +kernel))
  | nothing => obtain ⟨_, _, _, e, hm⟩ := in_nothing hdat; exact go e hm (ne_words _ _ (by decide +kernel)) (ne_words _ _ (by decide +kernel))
  | @vec k ps hl hps =>
    obtain ⟨_, _, _, _, _, _, e, hm, hm2, hv⟩ := in_vec hdat
    subst e
    exact turned_vec C1 k (IH k rfl) B F X N T hk hd hu hdl hod hol hI hc hm0 hm1 hm hm2 (by omega) hv hl hps hdat (.vec hl hps) ret
  | @pair k q1 q2 h1 h2 =>
    obtain ⟨_, _, _, _, _, e, hm, hd1, hd2⟩ := in_pair hdat
    subst e
    exact turned_pair C1 k (IH k rfl) B F X N T hk hd hu hdl hod hol hI hc hm0 hm1 hm hd1 hd2 h1 h2 hdat (.pair h1 h2) ret
theorem turned_all (n : Nat) : n ≤ 20 → TurnedC prog w p loose mean mg mb n :=
  Nat.rec (motive := fun n => n ≤ 20 → TurnedC prog w p loose mean mg mb n) (fun h => turned_some 0 (picture_all 1) h fun _ e => nomatch e)
    (fun n ih h => turned_some (n + 1) (picture_all 1) h fun _ e => Nat.succ.inj e ▸ ih (Nat.le_of_succ_le h)) n
end
section
variable {prog : Program} {w : World} {A : Around} {E : Value → Shared → Prop} {s : Shared} {h₀ : Heap} {L : Addr} {m : Str → Option Value} {env : Env}
open LCg in
def SrcT (prog : Program) (w : World) (A : Around) (h₀ : Heap) (L : Addr) (m : Str → Option Value) (env : Env) (elt : Expr) (x : Str) (scope : Scope) (cl : List (Str × Addr)) (Fin : Shared → List Value → List (Addr × Obj) → Prop) (xv : Value) (s₁ : Shared) : Prop :=
  ∃ ax vs k news, xv = .ref ax ∧ A.handled = none ∧ Fr h₀ L s₁.heap m ∧ News h₀ L s₁.heap news ∧ (ax, tupOf vs k) ∈ news ∧ vs.length ≤ sizeLine ∧
    ∀ s₂ : Shared, (∃ h, s₂ = { s₁ with heap := h }) → CompRest prog w A h₀ L m env elt x scope cl s₂ (fun nw => (ax, tupOf vs k) ∈ nw) (fun i v => vs[i]? = some v) (Fin s₂) vs.length 0 [] news
open LCg in
theorem SrcT.intro {elt : Expr} {x : Str} {scope : Scope} {cl : List (Str × Addr)} {Fin : Shared → List Value → List (Addr × Obj) → Prop} {ax : Addr} {vs : List Value} {k : Nat} {news : List (Addr × Obj)} {s₁ : Shared}
    (hh : A.handled = none) (F : Fr h₀ L s₁.heap m) (N : News h₀ L s₁.heap news) (hm : (ax, tupOf vs k) ∈ news) (hsz : vs.length ≤ sizeLine)
    (h : ∀ g, CompRest prog w A h₀ L m env elt x scope cl { s₁ with heap := g } (fun nw => (ax, tupOf vs k) ∈ nw) (fun i v => vs[i]? = some v) (Fin { s₁ with heap := g }) vs.length 0 [] news) :
    SrcT prog w A h₀ L m env elt x scope cl Fin (.ref ax) s₁ := ⟨ax, vs, k, news, rfl, hh, F, N, hm, hsz, fun _ ⟨g, e⟩ => e ▸ h g⟩
open LCg in
theorem ListComp_T {elt iter : Expr} {x : Str} {px : Pos} {scope : Scope} {cl : List (Str × Addr)} {pos : Pos} {Q : Value → Shared → Prop} (F₀ : Fr h₀ L s.heap m)
    (hclos : closureFor scope env = pure cl) (hcell : ∀ y ∈ scope.names, y.2 ≠ .cell) (hkind : scope.kind = .function)
    (hnames : ∀ y ∈ scope.names, y.2 = .local → scope.names.lookup y.1 = some .local) (hx : scope.names.lookup x = some .local)
    (h : wpAny (model prog w) A (eval iter env) (SrcT prog w A h₀ L m env elt x scope cl (fun s₂ => FinE h₀ L m s₂ Q)) E s)
    (hs : ∀ x, foldedSetIterable iter env x = pure x := by intro _; rfl) :
    wpAny (model prog w) A (eval (.ListComp elt [⟨.Name x px, iter, [], 0⟩] scope pos) env) Q E s := by
  rw [eval_ListComp]
  refine wpAny_comprehension_free (use := none) rfl hs hclos hkind hnames (wpAny_mono h (fun xv s₁ h₁ => ?_) fun _ _ e => e)
  obtain ⟨ax, vs, k, news, rfl, hh, F, N, hm, hsz, R⟩ := h₁
  have hl : IsTup s₁.heap ax vs.toArray := News.isTup N hm
  have hlt : ax < s₁.heap.objs.size := by obtain ⟨_, e, _⟩ := hl; exact Heap.lt_size e
  refine wpAny_pyIter_tuple hl ?_
  have up : ∀ b o, s₁.heap.get? b = some o → (s₁.heap.push { cls := .type "tuple_iterator", data := .fields #[.ref ax, .int 0 0] }).get? b = some o := fun b o e => Heap.get?_push_of_some _ e
  have W := Walks.tuple (prog := prog) (w := w) hh s₁.heap.objs.size ax (Nat.ne_of_lt hlt) vs.toArray
  simp only [List.getElem?_toArray] at W
  refine block_U W (by rw [List.size_toArray]; exact hsz) (fun i h st => by obtain ⟨o, e, _⟩ := st.1; exact ⟨o, e⟩) (S := fun nw => (ax, tupOf vs k) ∈ nw)
    (fun i h h' o nw st e e' kp N' S' => ⟨by obtain ⟨o', q, r⟩ := st.1; rw [e] at q; cases q; exact ⟨o, e', r⟩, News.isTup N' S'⟩) hcell hkind hx ⟨⟨_, Heap.get?_push_size _ rfl, rfl, rfl⟩, hl.keeps up⟩ (fun b hb => ?_)
    (F.keeps up) (N.grown up) (Nat.ne_of_lt F.ns.lt) (next_is_new F) (fun p hp => Nat.ne_of_lt (Heap.lt_size (N p hp).1)) hm (by rw [List.size_toArray]; exact R _ ⟨_, rfl⟩) ?_
  · show b < (s₁.heap.push _).objs.size
    rw [Heap.size_push]
    rcases List.mem_cons.mp hb with rfl | hb
    · exact Nat.lt_succ_self _
    · rw [List.mem_singleton.mp hb]; exact Nat.lt_succ_of_lt hlt
  · intro D C h tk m' ys news' F' N' o1 hn hC₀ hD₀ hCL hDL hCD offC fin
    refine ⟨m', hn, fun h'' hs'' => fin D h'' tk (F'.change hs'' hCL hC₀) (fun p hp => ?_) o1⟩
    refine ⟨hs''.extBut _ _ ?_ (N' p hp).1, (N' p hp).2⟩
    rcases List.mem_cons.mp hp with rfl | hp
    · exact Ne.symm hCD
    · exact offC p hp
end
section
variable {prog : Program} {w : World} {A : Around} {E : Value → Shared → Prop} {s : Shared} {h₀ : Heap} {L : Addr} {m : Str → Option Value} {env : Env}
open LCg in
def SrcS (prog : Program) (w : World) (A : Around) (h₀ : Heap) (L : Addr) (m : Str → Option Value) (env : Env) (elt : Expr) (x : Str) (scope : Scope) (cl : List (Str × Addr)) (Fin : Shared → List Value → List (Addr × Obj) → Prop) (xv : Value) (s₁ : Shared) : Prop :=
  ∃ z t news, xv = .str z t ∧ z.cps.all (· < 128) = true ∧ A.handled = none ∧ Fr h₀ L s₁.heap m ∧ News h₀ L s₁.heap news ∧ z.cps.size ≤ sizeLine ∧
    ∀ s₂ : Shared, (∃ h, s₂ = { s₁ with heap := h }) → CompRest prog w A h₀ L m env elt x scope cl s₂ (fun _ => True) (SignAt z) (Fin s₂) z.cps.size 0 [] news
open LCg in
theorem SrcS.intro {elt : Expr} {x : Str} {scope : Scope} {cl : List (Str × Addr)} {Fin : Shared → List Value → List (Addr × Obj) → Prop} {z : Str} {t : Tok} {news : List (Addr × Obj)} {s₁ : Shared}
    (ha : z.cps.all (· < 128) = true) (hh : A.handled = none) (F : Fr h₀ L s₁.heap m) (N : News h₀ L s₁.heap news) (hsz : z.cps.size ≤ sizeLine)
    (h : ∀ g, CompRest prog w A h₀ L m env elt x scope cl { s₁ with heap := g } (fun _ => True) (SignAt z) (Fin { s₁ with heap := g }) z.cps.size 0 [] news) :
    SrcS prog w A h₀ L m env elt x scope cl Fin (.str z t) s₁ := ⟨z, t, news, rfl, ha, hh, F, N, hsz, fun _ ⟨g, e⟩ => e ▸ h g⟩
open LCg in
theorem ListComp_S {elt iter : Expr} {x : Str} {px : Pos} {scope : Scope} {cl : List (Str × Addr)} {pos : Pos} {Q : Value → Shared → Prop} (F₀ : Fr h₀ L s.heap m)
    (hclos : closureFor scope env = pure cl) (hcell : ∀ y ∈ scope.names, y.2 ≠ .cell) (hkind : scope.kind = .function)
    (hnames : ∀ y ∈ scope.names, y.2 = .local → scope.names.lookup y.1 = some .local) (hx : scope.names.lookup x = some .local)
    (h : wpAny (model prog w) A (eval iter env) (SrcS prog w A h₀ L m env elt x scope cl (fun s₂ => FinE h₀ L m s₂ Q)) E s)
    (hs : ∀ x, foldedSetIterable iter env x = pure x := by intro _; rfl) :
    wpAny (model prog w) A (eval (.ListComp elt [⟨.Name x px, iter, [], 0⟩] scope pos) env) Q E s := by
  rw [eval_ListComp]
  refine wpAny_comprehension_free (use := none) rfl hs hclos hkind hnames (wpAny_mono h (fun xv s₁ h₁ => ?_) fun _ _ e => e)
  obtain ⟨z, t, news, rfl, ha, hh, F, N, hsz, R⟩ := h₁
  refine wpAny_pyIter_ascii ha ?_
  have up : ∀ b o, s₁.heap.get? b = some o → (s₁.heap.push { cls := .type "str_ascii_iterator", data := .fields #[.str z t, .int 0 0] }).get? b = some o := fun b o e => Heap.get?_push_of_some _ e
  refine block_U (Walks.strAscii (prog := prog) (w := w) hh s₁.heap.objs.size z t) hsz (fun i h st => by obtain ⟨o, e, _⟩ := st; exact ⟨o, e⟩) (S := fun _ => True)
    (fun i h h' o nw st e e' _ _ _ => by obtain ⟨o', q, r⟩ := st; rw [e] at q; cases q; exact ⟨o, e', r⟩) hcell hkind hx ⟨_, Heap.get?_push_size _ rfl, rfl, rfl⟩ (fun b hb => ?_)
    (F.keeps up) (N.grown up) (Nat.ne_of_lt F.ns.lt) (next_is_new F) (fun p hp => Nat.ne_of_lt (Heap.lt_size (N p hp).1)) trivial (R _ ⟨_, rfl⟩) ?_
  · show b < (s₁.heap.push _).objs.size
    rw [Heap.size_push, List.mem_singleton.mp hb]
    exact Nat.lt_succ_self _
  · intro D C h tk m' ys news' F' N' o1 hn hC₀ hD₀ hCL hDL hCD offC fin
    refine ⟨m', hn, fun h'' hs'' => fin D h'' tk (F'.change hs'' hCL hC₀) (fun p hp => ?_) o1⟩
    refine ⟨hs''.extBut _ _ ?_ (N' p hp).1, (N' p hp).2⟩
    rcases List.mem_cons.mp hp with rfl | hp
    · exact Ne.symm hCD
    · exact offC p hp
def codesOf (z : Str) : List Int := z.cps.toList.map fun c => ((c : Nat) : Int)
theorem codes_take {z : Str} {i c : Nat} (h : z.cps[i]? = some c) : (codesOf z).take (i + 1) = (codesOf z).take i ++ [((c : Nat) : Int)] := by
  unfold codesOf
  rw [List.take_add_one]
  congr 1
  rw [List.getElem?_map, Array.getElem?_toList, h]; rfl
theorem ints_snoc : ∀ {vs : List Value} {ns : List Int} {n : Int} {u : Tok}, IntsAre vs ns → IntsAre (vs ++ [.int n u]) (ns ++ [n])
  | [], _, _, _, .nil => .cons _ _ .nil
  | _ :: _, _, _, _, .cons _ _ h => .cons _ _ (ints_snoc h)
theorem comp_codes {elt : Expr} {x : Str} {scope : Scope} {cl' : List (Str × Addr)} {Fin : List Value → List (Addr × Obj) → Prop} {s : Shared} {z : Str} {base : List (Addr × Obj)}
    (step : ∀ ys c u I oI C oC D m₂ h tk (E' : Value → Shared → Prop), LCg.NsObj oC m₂ → m₂ x = some (.str ⟨#[c]⟩ u) → c < 128 → Fr h₀ L h m → News h₀ L h ((I, oI) :: (C, oC) :: (D, LCg.lst ys) :: base) → LCg.Off3 I C D base → ((@Ne Nat I C) ∧ (@Ne Nat I D) ∧ (@Ne Nat C D)) →
      wpAny (model prog w) A (eval elt (compEnvC scope cl' C env)) (LCg.CompEnd h₀ L m { s with heap := h, toks := tk } I oI C oC D (LCg.lst ys) (fun _ => True) (fun y news' => (∃ t, y = .int ((c : Nat) : Int) t) ∧ news' = base)) E' { s with heap := h, toks := tk })
    (ha : z.cps.all (· < 128) = true) (fin : ∀ ys, IntsAre ys (codesOf z) → Fin ys base) :
    LCg.CompRest prog w A h₀ L m env elt x scope cl' s (fun _ => True) (SignAt z) Fin z.cps.size 0 [] base := by
  refine compRest_ind z.cps.size (fun i ys nx => nx = base ∧ IntsAre ys ((codesOf z).take i)) ?_ ?_ z.cps.size 0 [] base (by omega) ⟨rfl, .nil⟩
  · rintro i ys nx hi ⟨rfl, hy⟩ v I oI C oC D m₂ h tk E' ⟨c, u, hc, rfl⟩ hC hx F N off ne
    have hlt : c < 128 := by
      obtain ⟨hi', e⟩ := Array.getElem?_eq_some_iff.mp hc
      have := Array.all_eq_true.mp ha i hi'
      rw [e] at this
      exact of_decide_eq_true this
    refine wpAny_mono (step ys c u I oI C oC D m₂ h tk E' hC hx hlt F N off ne) (fun y s₂ q => ?_) fun _ _ e => e
    obtain ⟨h', tk', news', e, F', N', off', hS, ⟨t, rfl⟩, rfl⟩ := q
    exact ⟨h', tk', _, e, F', N', off', hS, rfl, by rw [codes_take hc]; exact ints_snoc hy⟩
  · rintro ys nx ⟨rfl, hy⟩
    refine fin ys ?_
    rw [List.take_of_length_le (by unfold codesOf; rw [List.length_map, Array.length_toList]; exact Nat.le_refl _)] at hy
    exact hy
end
theorem abS_ascii {k : Int} (h0 : 0 ≤ k) (h3 : k < 3) : (abS k).cps.all (· < 128) = true ∧ (abS k).cps.size ≤ sizeLine := by
  rcases split3 h0 h3 with rfl | rfl | rfl <;> (refine ⟨by decide +kernel, ?_⟩; rw [sizeLine_eq]; exact Nat.le_of_ble_eq_true (by decide +kernel))
abbrev fld (P : Params) (x : Str) (t : Tok) (v : Value) : DictEntry := { hash := PyData.keyHash P x, key := .str x t, val := v }
def abOne (i : Int) : Str := if i = 0 then Str.ofString "a" else Str.ofString "b"
mutual
inductive Th (P : Params) (f : Option Int) (news : List (Addr × Obj)) : Value → Pic → Prop
  | int {t : Int} {u : Tok} : 0 ≤ t → t ≤ 2 → Th P f news (.int t u) (.num t 1)
  | rat {x d : Addr} {n : Nat} {b : Int} {t1 t2 u1 u2 : Tok} : (x, instObj 357 d) ∈ news → (d, dictOf [fld P (Str.ofString "top") t1 (.int 1 u1), fld P (Str.ofString "bottom") t2 (.int b u2)] n) ∈ news → 2 ≤ b → b ≤ 3 → Th P f news (.ref x) (.num 1 b)
  | truth {i : Int} {b : Bool} : BitOk i → (b = true ↔ i = 1) → Th P f news (.bool b) (.truth i)
  | char {x d : Addr} {n : Nat} {i c : Int} {t u : Tok} : (x, instObj 170 d) ∈ news → (d, dictOf [fld P (Str.ofString "code") t (.int c u)] n) ∈ news → BitOk i → c = 97 + i → Th P f news (.ref x) (.char i)
  | sym {x d : Addr} {n : Nat} {i j k : Int} {t1 t2 u1 u2 : Tok} : f = some j → BitOk i → (x, instObj 65 d) ∈ news → (d, dictOf [fld P (Str.ofString "number") t1 (.int k u1), fld P (Str.ofString "text") t2 (.str (abOne i) u2)] n) ∈ news → k = (if i = j then 0 else 1) → Th P f news (.ref x) (.sym i)
  | str {x d c : Addr} {n n2 : Nat} {k : Int} {t : Tok} {vs : List Value} : (x, instObj 191 d) ∈ news → (d, dictOf [fld P (Str.ofString "codes") t (.ref c)] n) ∈ news → (c, listOf vs.toArray n2) ∈ news → IntsAre vs (codesOf (abS k)) → 0 ≤ k → k < 3 → Th P f news (.ref x) (.str k)
  | empty : Th P f news (.ref 44) .empty
  | nothing : Th P f news (.ref 47) .nothing
  | vec {x d c : Addr} {n n2 : Nat} {t : Tok} {vs : List Value} {ps : List Pic} : (x, instObj 212 d) ∈ news → (d, dictOf [fld P (Str.ofString "things") t (.ref c)] n) ∈ news → (c, listOf vs.toArray n2) ∈ news → ThAll P f news vs ps → ps.length ≤ 4 → Th P f news (.ref x) (.vec ps)
  | pair {x d : Addr} {n : Nat} {t1 t2 : Tok} {v1 v2 : Value} {p q : Pic} : (x, instObj 149 d) ∈ news → (d, dictOf [fld P (Str.ofString "car") t1 v1, fld P (Str.ofString "cdr") t2 v2] n) ∈ news → Th P f news v1 p → Th P f news v2 q → Th P f news (.ref x) (.pair p q)
inductive ThAll (P : Params) (f : Option Int) (news : List (Addr × Obj)) : List Value → List Pic → Prop
  | nil : ThAll P f news [] []
  | cons {v : Value} {vs : List Value} {p : Pic} {ps : List Pic} : Th P f news v p → ThAll P f news vs ps → ThAll P f news (v :: vs) (p :: ps)
end
def Up (f f' : Option Int) : Prop := ∀ j, f = some j → f' = some j
theorem Up.refl {f : Option Int} : Up f f := fun _ h => h
theorem Up.none {f : Option Int} : Up none f := fun _ h => nomatch h
theorem Up.trans {f g h : Option Int} (a : Up f g) (b : Up g h) : Up f h := fun j e => b j (a j e)
mutual
theorem Th.mono {P : Params} {f f' : Option Int} {news news' : List (Addr × Obj)} (hf : Up f f') (hs : ∀ q ∈ news, q ∈ news') : ∀ {v : Value} {p : Pic}, Th P f news v p → Th P f' news' v p
  | _, _, .int h k => .int h k
  | _, _, .rat a b c d => .rat (hs _ a) (hs _ b) c d
  | _, _, .truth a b => .truth a b
  | _, _, .char a b c d => .char (hs _ a) (hs _ b) c d
  | _, _, .sym a b c d e => .sym (hf _ a) b (hs _ c) (hs _ d) e
  | _, _, .str a b c d e g => .str (hs _ a) (hs _ b) (hs _ c) d e g
  | _, _, .empty => .empty
  | _, _, .nothing => .nothing
  | _, _, .vec a b c d e => .vec (hs _ a) (hs _ b) (hs _ c) (ThAll.mono hf hs d) e
  | _, _, .pair a b c d => .pair (hs _ a) (hs _ b) (Th.mono hf hs c) (Th.mono hf hs d)
theorem ThAll.mono {P : Params} {f f' : Option Int} {news news' : List (Addr × Obj)} (hf : Up f f') (hs : ∀ q ∈ news, q ∈ news') : ∀ {vs : List Value} {ps : List Pic}, ThAll P f news vs ps → ThAll P f' news' vs ps
  | _, _, .nil => .nil
  | _, _, .cons a b => .cons (Th.mono hf hs a) (ThAll.mono hf hs b)
end
theorem Th.handed {P : Params} {f : Option Int} {news : List (Addr × Obj)} {v : Value} {p : Pic} (h : Th P f news v p) : handedIn v = true := by cases h <;> rfl
theorem ThAll.append {P : Params} {f : Option Int} {news : List (Addr × Obj)} : ∀ {vs ws : List Value} {ps qs : List Pic}, ThAll P f news vs ps → ThAll P f news ws qs → ThAll P f news (vs ++ ws) (ps ++ qs)
  | [], _, _, _, .nil, k => k
  | _ :: _, _, _, _, .cons h r, k => .cons h (ThAll.append r k)
theorem ThAll.length {P : Params} {f : Option Int} {news : List (Addr × Obj)} : ∀ {vs : List Value} {ps : List Pic}, ThAll P f news vs ps → vs.length = ps.length
  | _, _, .nil => rfl
  | _, _, .cons _ r => by rw [List.length_cons, List.length_cons, ThAll.length r]
inductive TabSt (P : Params) (news : List (Addr × Obj)) : Option Int → List Value → List (Str × Value) → Prop
  | nil : TabSt P news none [] []
  | one {j : Int} {x d : Addr} {n : Nat} {t1 t2 u1 u2 : Tok} : BitOk j → (x, instObj 65 d) ∈ news → (d, dictOf [fld P (Str.ofString "number") t1 (.int 0 u1), fld P (Str.ofString "text") t2 (.str (abOne j) u2)] n) ∈ news →
      TabSt P news (some j) [.ref x] [(abOne j, .ref x)]
  | two {j k : Int} {x d y e : Addr} {n n2 : Nat} {t1 t2 u1 u2 t3 t4 u3 u4 : Tok} : BitOk j → BitOk k → k ≠ j → (x, instObj 65 d) ∈ news → (d, dictOf [fld P (Str.ofString "number") t1 (.int 0 u1), fld P (Str.ofString "text") t2 (.str (abOne j) u2)] n) ∈ news →
      (y, instObj 65 e) ∈ news → (e, dictOf [fld P (Str.ofString "number") t3 (.int 1 u3), fld P (Str.ofString "text") t4 (.str (abOne k) u4)] n2) ∈ news →
      TabSt P news (some j) [.ref x, .ref y] [(abOne j, .ref x), (abOne k, .ref y)]
theorem TabSt.mono {P : Params} {f : Option Int} {news news' : List (Addr × Obj)} {rows : List Value} {es : List (Str × Value)} (hs : ∀ q ∈ news, q ∈ news') (h : TabSt P news f rows es) : TabSt P news' f rows es := by
  cases h with
  | nil => exact .nil
  | one a b c => exact .one a (hs _ b) (hs _ c)
  | two a b c d e g h => exact .two a b c (hs _ d) (hs _ e) (hs _ g) (hs _ h)
theorem ret_th {P : Params} {f : Option Int} {imm r TL : List (Addr × Obj)} {v : Value} {p : Pic} (tl : Tail imm r TL) (h : Th P f r v p) : Th P f (TL ++ imm) v p := tl.eq ▸ h
theorem ret_tab {P : Params} {f : Option Int} {imm r TL : List (Addr × Obj)} {rows : List Value} {es : List (Str × Value)} (tl : Tail imm r TL) (h : TabSt P r f rows es) : TabSt P (TL ++ imm) f rows es := tl.eq ▸ h
theorem abOne_ne {i j : Int} (hi : BitOk i) (hj : BitOk j) (h : i ≠ j) : abOne i ≠ abOne j := by
  have d1 : ¬ (Str.ofString "a" = Str.ofString "b") := by decide +kernel
  rcases split2 hi.1 hi.2 with rfl | rfl <;> rcases split2 hj.1 hj.2 with rfl | rfl
  · exact absurd rfl h
  · exact d1
  · exact fun e => d1 e.symm
  · exact absurd rfl h
theorem at_hit {x : Str} {v : Value} {r : List (Str × Value)} : valueAt ((x, v) :: r) x = some v := by simp [valueAt]
theorem at_miss {x y : Str} {v : Value} {r : List (Str × Value)} (h : x ≠ y) : valueAt ((y, v) :: r) x = valueAt r x := by simp [valueAt, Ne.symm h]
theorem at_nil {x : Str} : valueAt ([] : List (Str × Value)) x = none := rfl
theorem stored_new {r : List (Str × Value)} {x : Str} {v : Value} (h : ∀ p ∈ r, p.1 ≠ x) : stored r x v = r ++ [(x, v)] := by
  unfold stored
  rw [if_neg]
  intro q
  obtain ⟨p, hp, e⟩ := List.any_eq_true.mp q
  exact h p hp (of_decide_eq_true e)
section
variable {prog : Program} {w : World} {A : Around} {E : Value → Shared → Prop} {s : Shared} {h₀ : Heap} {L : Addr} {m : Str → Option Value} {news : List (Addr × Obj)}
theorem ab_item {value slice : Expr} {Q : Value → Shared → Prop} {ax : Addr} {n : Nat} {i : Int} {u t0 t1 : Tok} (N : News h₀ L s.heap news) (hm : (ax, listOf [Value.str (Str.ofString "a") t0, Value.str (Str.ofString "b") t1].toArray n) ∈ news) (hb : BitOk i)
    (h : ∀ t, Q (.str (abOne i) t) s)
    (hs : subscripted slice false (.ref ax) (.int i u) = operate [.ref ax, .int i u] (getItem (.ref ax) (.int i u)) := by with_unfolding_all rfl) :
    wpAny (model prog w) A (subscriptTail value slice (.ref ax) (.int i u)) Q E s :=
  sub2 N hm hb.1 hb.2 (fun e => by subst e; exact h t0) (fun e => by subst e; exact h t1) hs
end
theorem cast_one {Q : Value → Shared → Prop} {st : Shared} {k : Int} {u : Tok} (e : k = 1) (h : Q (.int 1 u) st) : Q (.int k u) st := e ▸ h
theorem ret_led1 {h₀ h : Heap} {L : Addr} {nw imm TL : List (Addr × Obj)} (N : News h₀ L h nw) (tl : Tail imm nw TL) : News h₀ L h (TL ++ imm) := tl.eq ▸ N
theorem fdiv1 (t : Int) : t.fdiv 1 = t := by rw [Int.fdiv_eq_ediv_of_nonneg _ (by decide), Int.ediv_one]
theorem th_whole {P : Params} {f : Option Int} {news : List (Addr × Obj)} {t b : Int} {u : Tok} (h : NumOk t b) (hb : b.fdiv 1 = 1) : Th P f news (.int (t.fdiv 1) u) (.num t b) := by
  rw [fdiv1] at hb ⊢
  subst hb
  rcases h with ⟨_, h0, h2⟩ | ⟨rfl, _, _⟩
  · exact .int h0 h2
  · exact .int (by decide) (by decide)
theorem th_part {P : Params} {f : Option Int} {news : List (Addr × Obj)} {t b : Int} {x d : Addr} {n : Nat} {t1 t2 u1 u2 : Tok} (h : NumOk t b) (hb : b.fdiv 1 ≠ 1) (m1 : (x, instObj 357 d) ∈ news) (m2 : (d, dictOf [fld P (Str.ofString "top") t1 (.int (t.fdiv 1) u1), fld P (Str.ofString "bottom") t2 (.int (b.fdiv 1) u2)] n) ∈ news) : Th P f news (.ref x) (.num t b) := by
  rw [fdiv1] at hb m2
  rw [fdiv1] at m2
  rcases h with ⟨hb1, _, _⟩ | ⟨rfl, h1, h3⟩
  · exact absurd hb1 hb
  · exact .rat m1 m2 (by omega) h3
theorem room_g {dp R : Nat} (h : dp + 6 < R) : dp + 1 + 3 < R := by omega
theorem units_g {un R : Nat} (h : un + 300 < R) : un + 3 + 200 < R := by omega
section
variable {prog : Program} {w : World} {p : Program} {loose : List Str} {mean : ExcName → Option Value} {mg mb : Str → Option Value}
set_option maxHeartbeats 4000000 in
theorem gcd_call {dp un : Nat} {gd : Option (List Code)} {cn : Str} {cs : Scope} {a : Addr} {ccd : Value} {cl : List (Str × Addr)} {outer : List Env} {A₀ : Around} {base h₀ : Heap} {L : Addr} {m : Str → Option Value} {news : List (Addr × Obj)} {s : Shared} {Q E : Value → Shared → Prop}
    {t b : Int} {u1 u2 : Tok}
    (B : Below A₀ base outer h₀) (F : Fr h₀ L s.heap m) (X : (Mine.hd.heap_39 w.params).In h₀)
    (N : News h₀ L s.heap news)
    (T : Top p loose mean mg mb h₀) (hk : cs.kind = .function) (hd : dp + 3 < recursionLimit) (hu : un + 200 < cLine) (hb : NumOk t b)
    (ret : ∀ u h' tk', Fr h₀ L h' m → News h₀ L h' news → Q (.int 1 u) { s with heap := h', toks := tk' }) :
    wpAny (model prog w) (ktrTop dp un gd cn cs L a ccd cl outer) (call (.ref 382) [.int t u1, .int b u2]) Q E s := by
  w_top off
  k_with_none
  have cases5 : (t = 0 ∧ b = 1) ∨ (t = 1 ∧ b = 1) ∨ (t = 2 ∧ b = 1) ∨ (t = 1 ∧ b = 2) ∨ (t = 1 ∧ b = 3) := by unfold NumOk at hb; omega
  rcases cases5 with ⟨rfl, rfl⟩ | ⟨rfl, rfl⟩ | ⟨rfl, rfl⟩ | ⟨rfl, rfl⟩ | ⟨rfl, rfl⟩ <;> (
    refine wpAny_call ?_
    k_dflt ktr_enter
    k_steps
    all_goals (
      (rename Fr _ _ _ _ => kF)
      (rename News _ _ _ _ => kN)
      refine cast_one ?e (ret _ _ _ kF (news_sub kN (by ((repeat' (first | exact List.forall_mem_nil _ | (with_reducible refine List.forall_mem_cons.mpr ⟨?_, ?_⟩) | (with_reducible refine List.forall_mem_append.mpr ⟨?_, ?_⟩) | (with_reducible exact mem_h) | (with_reducible refine mem_t ?_) | (with_reducible exact mem_l (by with_reducible assumption)) | (with_reducible refine mem_r ?_) | (with_reducible assumption) | (intro e9 he9; ((repeat' (first | (with_reducible exact he9) | (with_reducible exact mem_l he9) | (with_reducible refine mem_t ?_) | (with_reducible refine mem_r ?_))); done)))); done))))
      (case e => first | rfl | decide)))
set_option maxHeartbeats 4000000 in
theorem ratio_call {dp un : Nat} {gd : Option (List Code)} {cn : Str} {cs : Scope} {a : Addr} {ccd : Value} {cl : List (Str × Addr)} {outer : List Env} {A₀ : Around} {base h₀ : Heap} {L : Addr} {m : Str → Option Value} {news : List (Addr × Obj)} {s : Shared} {Q E : Value → Shared → Prop}
    {t b : Int} {u1 u2 : Tok}
    (B : Below A₀ base outer h₀) (F : Fr h₀ L s.heap m) (X : (Mine.hd.heap_39 w.params).In h₀)
    (N : News h₀ L s.heap news)
    (T : Top p loose mean mg mb h₀) (hk : cs.kind = .function) (hd : dp + 6 < recursionLimit) (hu : un + 300 < cLine) (hb : NumOk t b)
    (ret : ∀ r tl h' tk', (∀ f, Th w.params f tl r (.num t b)) → Over news tl → Fr h₀ L h' m → News h₀ L h' (tl ++ news) → Q r { s with heap := h', toks := tk' }) :
    wpAny (model prog w) (ktrTop dp un gd cn cs L a ccd cl outer) (call (.ref 396) [.int t u1, .int b u2]) Q E s := by
  w_top off
  k_with_none
  (k_with "newTuple" => (k_here; k_dflt (refine' kup_newTuple ?F ?N ?_ ?z; (case F => k_asm); (case N => k_asm); (case z => kmk_size)); intro D' h' F' N' l1; (try k_lt l1); (iterate 24 (try (obtain ⟨_, l1⟩ := l1))); (try k_sweep)))
  (k_with "call ref" => (
  k_here
  (with_reducible show wpAny _ _ (call (Value.ref 382) _) _ _ _)
  k_dflt (
  refine' gcd_call ?kB ?kF ?kX ?kN ?kT ?kk ?kd ?ku hb ?_
  (case kB => k_asm)
  (case kF => k_asm)
  (case kX => k_asm)
  (case kN => k_asm)
  (case kT => k_asm)
  (case kk => first | exact rfl | assumption)
  (case kd => exact room_g (by with_reducible assumption))
  (case ku => exact units_g (by with_reducible assumption))
  k_whole
  intro u9 h9 tk9 F9 N9
  (try k_sweep)
  (try dsimp only)
  (try k_fold))))

  have hb1 : 1 ≤ b := by unfold NumOk at hb; omega
  refine wpAny_call ?_
  k_dflt ktr_enter
  k_steps
  all_goals (
      (rename Fr _ _ _ _ => kF)
      (rename News _ _ _ _ => kN)
      first
      | exact ret _ [] _ _ (fun _ => th_whole hb (by assumption)) Over.nil kF kN
      | (refine' ret _ _ _ _ (fun _ => th_part hb (by assumption) ?m1 ?m2) ?over kF (ret_led1 kN ?tl)
         (case tl => ((repeat' (first | exact Tail.nil | (with_reducible refine' Tail.cons ?_) | (with_reducible refine' Tail.app ?_))); done))
         (case m1 => ((repeat' (first | (with_reducible exact mem_h) | (with_reducible refine mem_t ?_) | (with_reducible assumption) | (with_reducible exact mem_l (by with_reducible assumption)) | (with_reducible refine mem_r ?_))); done))
         (case m2 => ((repeat' (first | (with_reducible exact mem_h) | (with_reducible refine mem_t ?_) | (with_reducible assumption) | (with_reducible exact mem_l (by with_reducible assumption)) | (with_reducible refine mem_r ?_))); done))
         (case over => ((repeat' (first | exact Over.nil | (with_reducible refine Over.cons ?_ ?_) | (with_reducible refine Over.app ?_ ?_) | exact apart_lt (by with_reducible assumption) | exact apart_lt (allLt_of (by with_reducible assumption)) | (refine' apart_lt (over_lt ?h91 ?h92); (case h92 => with_reducible assumption); (case h91 => first | with_reducible assumption | exact allLt_of (by with_reducible assumption))) | (intro e9 he9; exact apart_lt (by with_reducible assumption) e9 (by (repeat' (first | with_reducible exact he9 | (with_reducible refine mem_t ?_) | (with_reducible exact mem_l he9) | (with_reducible refine mem_r ?_))))) | (intro q9 hq9 e9 he9; exact (by with_reducible assumption : Over _ _) q9 hq9 e9 (by (repeat' (first | with_reducible exact he9 | (with_reducible refine mem_t ?_) | (with_reducible exact mem_l he9) | (with_reducible refine mem_r ?_))))))); done))))
end
local macro_rules | `(tactic| kct_strs) => `(tactic| first | (with_reducible assumption) | exact mem_h | ((with_reducible refine mem_t ?_); kct_strs) | ((with_reducible refine mem_l ?_); kct_strs) | ((with_reducible refine mem_r ?_); kct_strs))
set_option hygiene false in
local macro_rules | `(tactic| kp_flats) => `(tactic| first | exact List.forall_mem_nil _ | ((with_reducible refine List.forall_mem_cons.mpr ⟨?_, ?_⟩); (focus kct_strs); kp_flats) | ((with_reducible refine List.forall_mem_append.mpr ⟨?_, ?_⟩); (focus kp_flats); kp_flats) | (intro e9 he9; first | kct_strs | (have he8 := hsub _ he9; kct_strs)))
def DatumC (prog : Program) (w : World) (p : Program) (loose : List Str) (mean : ExcName → Option Value) (mg mb : Str → Option Value) (n : Nat) : Prop :=
  ∀ {dp un : Nat} {gd : Option (List Code)} {cn : Str} {cs : Scope} {a : Addr} {ccd : Value} {cl : List (Str × Addr)} {outer : List Env} {A₀ : Around} {base h₀ : Heap} {L : Addr} {m : Str → Option Value} {news : List (Addr × Obj)} {s : Shared} {Q E : Value → Shared → Prop}
    {ta td R D : Addr} {nt nR : Nat} {t1 t2 : Tok} {rows : List Value} {oD : Obj} {es : List (Str × Value)} {sy : List (Addr × Obj)} {f : Option Int} {v : Value} {pic : Pic} {nw nw1 : List (Addr × Obj)},
    Below A₀ base outer h₀ → Fr h₀ L s.heap m → (Mine.hd.heap_39 w.params).In h₀ →
    News h₀ L s.heap nw → Pick (R, listOf rows.toArray nR) nw nw1 → Pick (D, oD) nw1 news →
    Top p loose mean mg mb h₀ → cs.kind = .function → dp + (n + 12) < recursionLimit → un + (20 * n + 600) < cLine →
    @Ne Nat R D → (∀ p ∈ news, p.1 ≠ R) → (∀ p ∈ news, p.1 ≠ D) →
    (ta, instObj 128 td) ∈ news → (td, dictOf [fld w.params (Str.ofString "rows") t1 (.ref R), fld w.params (Str.ofString "by_text") t2 (.ref D)] nt) ∈ news →
    TabSt w.params sy f rows es → (∀ q ∈ sy, q ∈ news) → oD.IsDictOf (PySem.strKind prog w) es → (D == sysModules) = false → DatIn news v pic.dat → Ok 4 n pic →
    (∀ (r : Value) (f' : Option Int) (rows' : List Value) nR' (es' : List (Str × Value)) oD' tl h' tk', Up f f' → Th w.params f' (tl ++ sy) r pic → TabSt w.params (tl ++ sy) f' rows' es' → oD'.IsDictOf (PySem.strKind prog w) es' → Over news tl → (∀ q ∈ tl, q.1 ≠ R) → (∀ q ∈ tl, q.1 ≠ D) →
      Fr h₀ L h' m → News h₀ L h' ((R, listOf rows'.toArray nR') :: (D, oD') :: (tl ++ news)) → Q r { s with heap := h', toks := tk' }) →
    wpAny (model prog w) (ktrTop dp un gd cn cs L a ccd cl outer) (call (.ref 475) [v, .ref ta]) Q E s
theorem room_dd {dp n R : Nat} (h : dp + (n + 12) < R) : dp + 1 + 1 < R := by omega
theorem room_ra {dp n R : Nat} (h : dp + (n + 12) < R) : dp + 1 + 6 < R := by omega
theorem units_ra {un n R : Nat} (h : un + (20 * n + 600) < R) : un + 3 + 300 < R := by omega
section
variable {prog : Program} {w : World} {p : Program} {loose : List Str} {mean : ExcName → Option Value} {mg mb : Str → Option Value}
set_option maxHeartbeats 4000000 in
theorem datum_leaf (n : Nat) {dp un : Nat} {gd : Option (List Code)} {cn : Str} {cs : Scope} {a : Addr} {ccd : Value} {cl : List (Str × Addr)} {outer : List Env} {A₀ : Around} {base h₀ : Heap} {L : Addr} {m : Str → Option Value} {news : List (Addr × Obj)} {s : Shared} {Q E : Value → Shared → Prop}
    {ta td R D : Addr} {nt nR : Nat} {t1 t2 : Tok} {rows : List Value} {oD : Obj} {es : List (Str × Value)} {sy : List (Addr × Obj)} {f : Option Int} {v : Value} {pic : Pic}
    (B : Below A₀ base outer h₀) (F : Fr h₀ L s.heap m) (X : (Mine.hd.heap_39 w.params).In h₀)
    (N : News h₀ L s.heap ((R, listOf rows.toArray nR) :: (D, oD) :: news))
    (T : Top p loose mean mg mb h₀) (hk : cs.kind = .function) (hd : dp + (n + 12) < recursionLimit) (hu : un + (20 * n + 600) < cLine)
    (hRD : @Ne Nat R D) (hoR : ∀ p ∈ news, p.1 ≠ R) (hoD : ∀ p ∈ news, p.1 ≠ D)
    (hta : (ta, instObj 128 td) ∈ news) (htd : (td, dictOf [fld w.params (Str.ofString "rows") t1 (.ref R), fld w.params (Str.ofString "by_text") t2 (.ref D)] nt) ∈ news)
    (htab : TabSt w.params sy f rows es) (hsub : ∀ q ∈ sy, q ∈ news) (hDo : oD.IsDictOf (PySem.strKind prog w) es) (hdat : DatIn news v pic.dat)
    (hpic : (∃ t b, pic = .num t b ∧ NumOk t b) ∨ (∃ i, pic = .truth i ∧ BitOk i) ∨ (∃ i, pic = .char i ∧ BitOk i) ∨ (∃ k, pic = .str k ∧ 0 ≤ k ∧ k < 3) ∨ pic = .empty ∨ pic = .nothing)
    (ret : ∀ (r : Value) (f' : Option Int) (rows' : List Value) nR' (es' : List (Str × Value)) oD' tl h' tk', Up f f' → Th w.params f' (tl ++ sy) r pic → TabSt w.params (tl ++ sy) f' rows' es' → oD'.IsDictOf (PySem.strKind prog w) es' → Over news tl → (∀ q ∈ tl, q.1 ≠ R) → (∀ q ∈ tl, q.1 ≠ D) →
      Fr h₀ L h' m → News h₀ L h' ((R, listOf rows'.toArray nR') :: (D, oD') :: (tl ++ news)) → Q r { s with heap := h', toks := tk' }) :
    wpAny (model prog w) (ktrTop dp un gd cn cs L a ccd cl outer) (call (.ref 475) [v, .ref ta]) Q E s := by
  w_top off
  k_with_none
  (k_with "subscriptTail" => (k_here; (with_reducible show wpAny _ _ (subscriptTail _ _ (Value.ref _) (Value.int _ _)) _ _ _); k_dflt (refine' tup_itemJ ?N ?m ?lo ?hi ?j ?x ?_; (case N => k_asm); (case m => k_mem); (case lo => decide); (case hi => decide); (case j => rfl); (case x => rfl); k_whole)))
  (k_with "CompEnd" => (k_here; (rename Fr _ _ _ _ => kF); (rename News _ _ _ _ => kN); k_dflt (
  refine' compEnd_pick kF kN ?pI ?pC ?pD ?off ?hS ?_
  (case pI => (repeat' (first | exact Pick.head | (with_reducible refine' Pick.tail ?_) | (with_reducible refine' Pick.app ?_))))
  (case pC => (repeat' (first | exact Pick.head | (with_reducible refine' Pick.tail ?_) | (with_reducible refine' Pick.app ?_))))
  (case pD => (repeat' (first | exact Pick.head | (with_reducible refine' Pick.tail ?_) | (with_reducible refine' Pick.app ?_))))
  (case off => (repeat' (first | exact List.forall_mem_nil _ | (with_reducible refine List.forall_mem_cons.mpr ⟨off3_addr (by with_reducible assumption) (by (repeat' (first | (with_reducible exact mem_h) | (with_reducible refine mem_t ?_) | (with_reducible refine mem_r ?_)))), ?_⟩) | (with_reducible refine List.forall_mem_append.mpr ⟨?_, ?_⟩) | exact off3_over (by with_reducible assumption) (by (repeat' (first | (with_reducible exact mem_h) | (with_reducible refine mem_t ?_) | (with_reducible refine mem_r ?_)))) (by (repeat' (first | (with_reducible exact mem_h) | (with_reducible refine mem_t ?_) | (with_reducible refine mem_r ?_)))) (by (repeat' (first | (with_reducible exact mem_h) | (with_reducible refine mem_t ?_) | (with_reducible refine mem_r ?_)))) | (intro e9 he9; exact LCg.Off3.mem (by with_reducible assumption) e9 (by (repeat' (first | with_reducible exact he9 | (with_reducible refine mem_t ?_) | (with_reducible exact mem_l he9) | (with_reducible refine mem_r ?_))))))))
  (case hS => first | exact trivial | lcg_src))))
  (k_with "FinE" => ((unfold LCg.FinE); intro D' h' tk' F' N' o1'; have o9 := o1'; (try simp only [LCg.Off1, and_true] at o1'); (try simp only [List.nil_append, List.cons_append] at N'); (try dsimp only)))
  (k_with "eval ListComp" => (k_here; k_dflt (refine ListComp_S (F₀ := by k_asm) (by with_unfolding_all rfl) (by decide) (by rfl) (by decide) (by rfl) ?_)))
  (k_with "SrcS" => (k_here; k_dflt (refine' SrcS.intro (abS_ascii hk0 hk3).1 ?hh ?F ?N (abS_ascii hk0 hk3).2 ?_; (case hh => rfl); (case F => k_asm); (case N => k_asm)); intro g'))
  (k_with "call ref" => (k_here; (with_reducible show wpAny _ _ (call (Value.ref 396) _) _ _ _); k_dflt (
  refine' ratio_call ?kB ?kF ?kX ?kN ?kT ?kk ?kd ?ku hb ?_
  (case kB => k_asm)
  (case kF => k_asm)
  (case kX => k_asm)
  (case kN => k_asm)
  (case kT => k_asm)
  (case kk => first | exact rfl | assumption)
  (case kd => exact room_ra (by with_reducible assumption))
  (case ku => exact units_ra (by with_reducible assumption))
  k_whole
  intro r9 tl9 h9 tk9 hth9 hov9 F9 N9
  have hhd9 := (hth9 none).handed
  (try k_sweep)
  (try dsimp only)
  (try k_fold))))
  rcases hpic with ⟨t, b, rfl, hb⟩ | ⟨i, rfl, hbit⟩ | ⟨i, rfl, hbit⟩ | ⟨k, rfl, hk0, hk3⟩ | rfl | rfl
  · obtain ⟨pa, pk, _, _, _, rfl, hpm⟩ := in_num hdat
    refine wpAny_call ?_
    k_dflt (first | (refine' code_defC ?k1 ?k2 ?k3 ?k4 ?k5 ?kA ?kF ?kK ?k6 ?k7 ?k8 ?k9 ?kB ?kD ?_ ?c2 ?c3 ?c4; (case kA => exact rfl); (case kF => exact rfl); (case kK => assumption); (case k1 => k_asm); (case k2 => k_asm); (case k3 => k_asm); (case k4 => k_asm); (case k5 => k_asm); (case k6 => k_is); (case k7 => k_is); (case k8 => ktr_room); (case k9 => first | exact BindsTo.of_eq rfl | exact binds_K (by k_in) rfl (by k_is) rfl rfl rfl | fail "k_enter: no rule for these arguments"); (case kB => exact rfl); (case kD => decide +kernel); (case c2 => exact rfl); (case c3 => exact rfl); (case c4 => exact rfl); k_whole; intro g' L' h' tk' cells' FG' F' N' Y' B' X' T' l1; (try k_lt l1); k_cells Y'; (try simp only [List.cons_append, List.nil_append] at N'); (try dsimp only); (try k_lift B'); (try k_fold)) | ktr_enter)
    (with_reducible rename _ ∧ _ => l1e)
    obtain ⟨hRL, hDL, hAL⟩ := l1e
    k_steps
    all_goals (
    (rename Fr _ _ _ _ => kF)
    (rename News _ _ _ _ => kN)
    (iterate 24 (try ((with_reducible rename _ ∧ _ => hh9); obtain ⟨_, _⟩ := hh9)))
    refine' ret _ _ _ _ _ _ _ _ _ ?up ?th ?tab ?isd ?over ?oR ?oD kF (ret_ledger kN ?p1 ?p2 ?tl)
    (case p1 => (repeat' (first | exact Pick.head | (with_reducible refine' Pick.tail ?_) | (with_reducible refine' Pick.app ?_))))
    (case p2 => (repeat' (first | exact Pick.head | (with_reducible refine' Pick.tail ?_) | (with_reducible refine' Pick.app ?_))))
    (case tl => (repeat' (first | exact Tail.nil | (with_reducible refine' Tail.cons ?_) | (with_reducible refine' Tail.app ?_))))
    (case over => (repeat' (first | exact Over.nil | (with_reducible refine Over.cons ?_ ?_) | (with_reducible refine Over.app ?_ ?_) | exact apart_lt (by with_reducible assumption) | exact apart_lt (over_lt hAL (by omega)) | exact apart_lt (allLt_of (by with_reducible assumption)) | (refine' apart_lt (over_lt ?h91 ?h92); (case h92 => with_reducible assumption); (case h91 => first | with_reducible assumption | exact allLt_of (by with_reducible assumption))) | (intro e9 he9; exact apart_lt (by with_reducible assumption) e9 (by (repeat' (first | with_reducible exact he9 | (with_reducible refine mem_t ?_) | (with_reducible exact mem_l he9) | (with_reducible refine mem_r ?_))))) | (intro e9 he9; exact apart_off (by with_reducible assumption) e9 (by (repeat' (first | with_reducible exact he9 | (with_reducible refine mem_t ?_) | (with_reducible exact mem_l he9) | (with_reducible refine mem_r ?_))))) | (intro q9 hq9 e9 he9; exact (by with_reducible assumption : Over _ _) q9 hq9 e9 (by (repeat' (first | with_reducible exact he9 | (with_reducible refine mem_t ?_) | (with_reducible exact mem_l he9) | (with_reducible refine mem_r ?_))))))))
    (case oR => (repeat' (first | (with_reducible assumption) | exact List.forall_mem_nil _ | (with_reducible refine List.forall_mem_cons.mpr ⟨?_, ?_⟩) | (with_reducible refine List.forall_mem_append.mpr ⟨?_, ?_⟩) | (first | exact gt_ne (by with_reducible assumption) | exact Over.ne (by with_reducible assumption) (by ((repeat' (first | (with_reducible exact mem_h) | (with_reducible refine mem_t ?_) | (with_reducible assumption) | (with_reducible exact mem_l (by with_reducible assumption)) | (with_reducible refine mem_r ?_))); done)) | k_ne) | assumption)))
    (case oD => (repeat' (first | (with_reducible assumption) | exact List.forall_mem_nil _ | (with_reducible refine List.forall_mem_cons.mpr ⟨?_, ?_⟩) | (with_reducible refine List.forall_mem_append.mpr ⟨?_, ?_⟩) | (first | exact gt_ne (by with_reducible assumption) | exact Over.ne (by with_reducible assumption) (by ((repeat' (first | (with_reducible exact mem_h) | (with_reducible refine mem_t ?_) | (with_reducible assumption) | (with_reducible exact mem_l (by with_reducible assumption)) | (with_reducible refine mem_r ?_))); done)) | k_ne) | assumption)))
    (case isd => exact hDo)
    (case tab => (refine' TabSt.mono ?s8 htab; (case s8 => kp_flats)))
    (case up => exact Up.refl)
    (case th => first
      | exact Th.truth hbit beq_iff_eq
      | exact Th.truth hbit decide_eq_true_iff
      | (refine' Th.mono Up.refl ?s9 (hth9 _); (case s9 => (intro e9 he9; first | exact mem_l he9 | exact mem_l (mem_l he9))))
      | exact Th.char (by kct_strs) (by kct_strs) hbit rfl
      | exact Th.str (by kct_strs) (by kct_strs) (by kct_strs) hys hk0 hk3
      | exact Th.empty
      | exact Th.nothing))
  · obtain ⟨pa, pk, _, _, rfl, hpm⟩ := in_truth hdat
    refine wpAny_call ?_
    k_dflt (first | (refine' code_defC ?k1 ?k2 ?k3 ?k4 ?k5 ?kA ?kF ?kK ?k6 ?k7 ?k8 ?k9 ?kB ?kD ?_ ?c2 ?c3 ?c4; (case kA => exact rfl); (case kF => exact rfl); (case kK => assumption); (case k1 => k_asm); (case k2 => k_asm); (case k3 => k_asm); (case k4 => k_asm); (case k5 => k_asm); (case k6 => k_is); (case k7 => k_is); (case k8 => ktr_room); (case k9 => first | exact BindsTo.of_eq rfl | exact binds_K (by k_in) rfl (by k_is) rfl rfl rfl | fail "k_enter: no rule for these arguments"); (case kB => exact rfl); (case kD => decide +kernel); (case c2 => exact rfl); (case c3 => exact rfl); (case c4 => exact rfl); k_whole; intro g' L' h' tk' cells' FG' F' N' Y' B' X' T' l1; (try k_lt l1); k_cells Y'; (try simp only [List.cons_append, List.nil_append] at N'); (try dsimp only); (try k_lift B'); (try k_fold)) | ktr_enter)
    (with_reducible rename _ ∧ _ => l1e)
    obtain ⟨hRL, hDL, hAL⟩ := l1e
    k_steps
    all_goals (
    (rename Fr _ _ _ _ => kF)
    (rename News _ _ _ _ => kN)
    (iterate 24 (try ((with_reducible rename _ ∧ _ => hh9); obtain ⟨_, _⟩ := hh9)))
    refine' ret _ _ _ _ _ _ _ _ _ ?up ?th ?tab ?isd ?over ?oR ?oD kF (ret_ledger kN ?p1 ?p2 ?tl)
    (case p1 => (repeat' (first | exact Pick.head | (with_reducible refine' Pick.tail ?_) | (with_reducible refine' Pick.app ?_))))
    (case p2 => (repeat' (first | exact Pick.head | (with_reducible refine' Pick.tail ?_) | (with_reducible refine' Pick.app ?_))))
    (case tl => (repeat' (first | exact Tail.nil | (with_reducible refine' Tail.cons ?_) | (with_reducible refine' Tail.app ?_))))
    (case over => (repeat' (first | exact Over.nil | (with_reducible refine Over.cons ?_ ?_) | (with_reducible refine Over.app ?_ ?_) | exact apart_lt (by with_reducible assumption) | exact apart_lt (over_lt hAL (by omega)) | exact apart_lt (allLt_of (by with_reducible assumption)) | (refine' apart_lt (over_lt ?h91 ?h92); (case h92 => with_reducible assumption); (case h91 => first | with_reducible assumption | exact allLt_of (by with_reducible assumption))) | (intro e9 he9; exact apart_lt (by with_reducible assumption) e9 (by (repeat' (first | with_reducible exact he9 | (with_reducible refine mem_t ?_) | (with_reducible exact mem_l he9) | (with_reducible refine mem_r ?_))))) | (intro e9 he9; exact apart_off (by with_reducible assumption) e9 (by (repeat' (first | with_reducible exact he9 | (with_reducible refine mem_t ?_) | (with_reducible exact mem_l he9) | (with_reducible refine mem_r ?_))))) | (intro q9 hq9 e9 he9; exact (by with_reducible assumption : Over _ _) q9 hq9 e9 (by (repeat' (first | with_reducible exact he9 | (with_reducible refine mem_t ?_) | (with_reducible exact mem_l he9) | (with_reducible refine mem_r ?_))))))))
    (case oR => (repeat' (first | (with_reducible assumption) | exact List.forall_mem_nil _ | (with_reducible refine List.forall_mem_cons.mpr ⟨?_, ?_⟩) | (with_reducible refine List.forall_mem_append.mpr ⟨?_, ?_⟩) | (first | exact gt_ne (by with_reducible assumption) | exact Over.ne (by with_reducible assumption) (by ((repeat' (first | (with_reducible exact mem_h) | (with_reducible refine mem_t ?_) | (with_reducible assumption) | (with_reducible exact mem_l (by with_reducible assumption)) | (with_reducible refine mem_r ?_))); done)) | k_ne) | assumption)))
    (case oD => (repeat' (first | (with_reducible assumption) | exact List.forall_mem_nil _ | (with_reducible refine List.forall_mem_cons.mpr ⟨?_, ?_⟩) | (with_reducible refine List.forall_mem_append.mpr ⟨?_, ?_⟩) | (first | exact gt_ne (by with_reducible assumption) | exact Over.ne (by with_reducible assumption) (by ((repeat' (first | (with_reducible exact mem_h) | (with_reducible refine mem_t ?_) | (with_reducible assumption) | (with_reducible exact mem_l (by with_reducible assumption)) | (with_reducible refine mem_r ?_))); done)) | k_ne) | assumption)))
    (case isd => exact hDo)
    (case tab => (refine' TabSt.mono ?s8 htab; (case s8 => kp_flats)))
    (case up => exact Up.refl)
    (case th => first
      | exact Th.truth hbit beq_iff_eq
      | exact Th.truth hbit decide_eq_true_iff
      | (refine' Th.mono Up.refl ?s9 (hth9 _); (case s9 => (intro e9 he9; first | exact mem_l he9 | exact mem_l (mem_l he9))))
      | exact Th.char (by kct_strs) (by kct_strs) hbit rfl
      | exact Th.str (by kct_strs) (by kct_strs) (by kct_strs) hys hk0 hk3
      | exact Th.empty
      | exact Th.nothing))
  · obtain ⟨pa, pk, _, _, rfl, hpm⟩ := in_char hdat
    refine wpAny_call ?_
    k_dflt (first | (refine' code_defC ?k1 ?k2 ?k3 ?k4 ?k5 ?kA ?kF ?kK ?k6 ?k7 ?k8 ?k9 ?kB ?kD ?_ ?c2 ?c3 ?c4; (case kA => exact rfl); (case kF => exact rfl); (case kK => assumption); (case k1 => k_asm); (case k2 => k_asm); (case k3 => k_asm); (case k4 => k_asm); (case k5 => k_asm); (case k6 => k_is); (case k7 => k_is); (case k8 => ktr_room); (case k9 => first | exact BindsTo.of_eq rfl | exact binds_K (by k_in) rfl (by k_is) rfl rfl rfl | fail "k_enter: no rule for these arguments"); (case kB => exact rfl); (case kD => decide +kernel); (case c2 => exact rfl); (case c3 => exact rfl); (case c4 => exact rfl); k_whole; intro g' L' h' tk' cells' FG' F' N' Y' B' X' T' l1; (try k_lt l1); k_cells Y'; (try simp only [List.cons_append, List.nil_append] at N'); (try dsimp only); (try k_lift B'); (try k_fold)) | ktr_enter)
    (with_reducible rename _ ∧ _ => l1e)
    obtain ⟨hRL, hDL, hAL⟩ := l1e
    k_steps
    all_goals (
    (rename Fr _ _ _ _ => kF)
    (rename News _ _ _ _ => kN)
    (iterate 24 (try ((with_reducible rename _ ∧ _ => hh9); obtain ⟨_, _⟩ := hh9)))
    refine' ret _ _ _ _ _ _ _ _ _ ?up ?th ?tab ?isd ?over ?oR ?oD kF (ret_ledger kN ?p1 ?p2 ?tl)
    (case p1 => (repeat' (first | exact Pick.head | (with_reducible refine' Pick.tail ?_) | (with_reducible refine' Pick.app ?_))))
    (case p2 => (repeat' (first | exact Pick.head | (with_reducible refine' Pick.tail ?_) | (with_reducible refine' Pick.app ?_))))
    (case tl => (repeat' (first | exact Tail.nil | (with_reducible refine' Tail.cons ?_) | (with_reducible refine' Tail.app ?_))))
    (case over => (repeat' (first | exact Over.nil | (with_reducible refine Over.cons ?_ ?_) | (with_reducible refine Over.app ?_ ?_) | exact apart_lt (by with_reducible assumption) | exact apart_lt (over_lt hAL (by omega)) | exact apart_lt (allLt_of (by with_reducible assumption)) | (refine' apart_lt (over_lt ?h91 ?h92); (case h92 => with_reducible assumption); (case h91 => first | with_reducible assumption | exact allLt_of (by with_reducible assumption))) | (intro e9 he9; exact apart_lt (by with_reducible assumption) e9 (by (repeat' (first | with_reducible exact he9 | (with_reducible refine mem_t ?_) | (with_reducible exact mem_l he9) | (with_reducible refine mem_r ?_))))) | (intro e9 he9; exact apart_off (by with_reducible assumption) e9 (by (repeat' (first | with_reducible exact he9 | (with_reducible refine mem_t ?_) | (with_reducible exact mem_l he9) | (with_reducible refine mem_r ?_))))) | (intro q9 hq9 e9 he9; exact (by with_reducible assumption : Over _ _) q9 hq9 e9 (by (repeat' (first | with_reducible exact he9 | (with_reducible refine mem_t ?_) | (with_reducible exact mem_l he9) | (with_reducible refine mem_r ?_))))))))
    (case oR => (repeat' (first | (with_reducible assumption) | exact List.forall_mem_nil _ | (with_reducible refine List.forall_mem_cons.mpr ⟨?_, ?_⟩) | (with_reducible refine List.forall_mem_append.mpr ⟨?_, ?_⟩) | (first | exact gt_ne (by with_reducible assumption) | exact Over.ne (by with_reducible assumption) (by ((repeat' (first | (with_reducible exact mem_h) | (with_reducible refine mem_t ?_) | (with_reducible assumption) | (with_reducible exact mem_l (by with_reducible assumption)) | (with_reducible refine mem_r ?_))); done)) | k_ne) | assumption)))
    (case oD => (repeat' (first | (with_reducible assumption) | exact List.forall_mem_nil _ | (with_reducible refine List.forall_mem_cons.mpr ⟨?_, ?_⟩) | (with_reducible refine List.forall_mem_append.mpr ⟨?_, ?_⟩) | (first | exact gt_ne (by with_reducible assumption) | exact Over.ne (by with_reducible assumption) (by ((repeat' (first | (with_reducible exact mem_h) | (with_reducible refine mem_t ?_) | (with_reducible assumption) | (with_reducible exact mem_l (by with_reducible assumption)) | (with_reducible refine mem_r ?_))); done)) | k_ne) | assumption)))
    (case isd => exact hDo)
    (case tab => (refine' TabSt.mono ?s8 htab; (case s8 => kp_flats)))
    (case up => exact Up.refl)
    (case th => first
      | exact Th.truth hbit beq_iff_eq
      | exact Th.truth hbit decide_eq_true_iff
      | (refine' Th.mono Up.refl ?s9 (hth9 _); (case s9 => (intro e9 he9; first | exact mem_l he9 | exact mem_l (mem_l he9))))
      | exact Th.char (by kct_strs) (by kct_strs) hbit rfl
      | exact Th.str (by kct_strs) (by kct_strs) (by kct_strs) hys hk0 hk3
      | exact Th.empty
      | exact Th.nothing))
  · obtain ⟨pa, pk, _, _, rfl, hpm⟩ := in_str hdat
    refine wpAny_call ?_
    k_dflt (first | (refine' code_defC ?k1 ?k2 ?k3 ?k4 ?k5 ?kA ?kF ?kK ?k6 ?k7 ?k8 ?k9 ?kB ?kD ?_ ?c2 ?c3 ?c4; (case kA => exact rfl); (case kF => exact rfl); (case kK => assumption); (case k1 => k_asm); (case k2 => k_asm); (case k3 => k_asm); (case k4 => k_asm); (case k5 => k_asm); (case k6 => k_is); (case k7 => k_is); (case k8 => ktr_room); (case k9 => first | exact BindsTo.of_eq rfl | exact binds_K (by k_in) rfl (by k_is) rfl rfl rfl | fail "k_enter: no rule for these arguments"); (case kB => exact rfl); (case kD => decide +kernel); (case c2 => exact rfl); (case c3 => exact rfl); (case c4 => exact rfl); k_whole; intro g' L' h' tk' cells' FG' F' N' Y' B' X' T' l1; (try k_lt l1); k_cells Y'; (try simp only [List.cons_append, List.nil_append] at N'); (try dsimp only); (try k_lift B'); (try k_fold)) | ktr_enter)
    (with_reducible rename _ ∧ _ => l1e)
    obtain ⟨hRL, hDL, hAL⟩ := l1e
    k_steps
    refine' comp_codes ?step9 (abS_ascii hk0 hk3).1 ?fin9
    case step9 =>
      intro ys c u I oI C oC D9 m₂ h tk E' hC hx hlt F9 N9 off9 ne9
      k_steps
      all_goals exact ⟨⟨_, rfl⟩, rfl⟩
    case fin9 =>
      intro ys hys
      k_steps
      all_goals (
    (rename Fr _ _ _ _ => kF)
    (rename News _ _ _ _ => kN)
    (iterate 24 (try ((with_reducible rename _ ∧ _ => hh9); obtain ⟨_, _⟩ := hh9)))
    refine' ret _ _ _ _ _ _ _ _ _ ?up ?th ?tab ?isd ?over ?oR ?oD kF (ret_ledger kN ?p1 ?p2 ?tl)
    (case p1 => (repeat' (first | exact Pick.head | (with_reducible refine' Pick.tail ?_) | (with_reducible refine' Pick.app ?_))))
    (case p2 => (repeat' (first | exact Pick.head | (with_reducible refine' Pick.tail ?_) | (with_reducible refine' Pick.app ?_))))
    (case tl => (repeat' (first | exact Tail.nil | (with_reducible refine' Tail.cons ?_) | (with_reducible refine' Tail.app ?_))))
    (case over => (repeat' (first | exact Over.nil | (with_reducible refine Over.cons ?_ ?_) | (with_reducible refine Over.app ?_ ?_) | exact apart_lt (by with_reducible assumption) | exact apart_lt (over_lt hAL (by omega)) | exact apart_lt (allLt_of (by with_reducible assumption)) | (refine' apart_lt (over_lt ?h91 ?h92); (case h92 => with_reducible assumption); (case h91 => first | with_reducible assumption | exact allLt_of (by with_reducible assumption))) | (intro e9 he9; exact apart_lt (by with_reducible assumption) e9 (by (repeat' (first | with_reducible exact he9 | (with_reducible refine mem_t ?_) | (with_reducible exact mem_l he9) | (with_reducible refine mem_r ?_))))) | (intro e9 he9; exact apart_off (by with_reducible assumption) e9 (by (repeat' (first | with_reducible exact he9 | (with_reducible refine mem_t ?_) | (with_reducible exact mem_l he9) | (with_reducible refine mem_r ?_))))) | (intro q9 hq9 e9 he9; exact (by with_reducible assumption : Over _ _) q9 hq9 e9 (by (repeat' (first | with_reducible exact he9 | (with_reducible refine mem_t ?_) | (with_reducible exact mem_l he9) | (with_reducible refine mem_r ?_))))))))
    (case oR => (repeat' (first | (with_reducible assumption) | exact List.forall_mem_nil _ | (with_reducible refine List.forall_mem_cons.mpr ⟨?_, ?_⟩) | (with_reducible refine List.forall_mem_append.mpr ⟨?_, ?_⟩) | (first | exact gt_ne (by with_reducible assumption) | exact Over.ne (by with_reducible assumption) (by ((repeat' (first | (with_reducible exact mem_h) | (with_reducible refine mem_t ?_) | (with_reducible assumption) | (with_reducible exact mem_l (by with_reducible assumption)) | (with_reducible refine mem_r ?_))); done)) | k_ne) | assumption)))
    (case oD => (repeat' (first | (with_reducible assumption) | exact List.forall_mem_nil _ | (with_reducible refine List.forall_mem_cons.mpr ⟨?_, ?_⟩) | (with_reducible refine List.forall_mem_append.mpr ⟨?_, ?_⟩) | (first | exact gt_ne (by with_reducible assumption) | exact Over.ne (by with_reducible assumption) (by ((repeat' (first | (with_reducible exact mem_h) | (with_reducible refine mem_t ?_) | (with_reducible assumption) | (with_reducible exact mem_l (by with_reducible assumption)) | (with_reducible refine mem_r ?_))); done)) | k_ne) | assumption)))
    (case isd => exact hDo)
    (case tab => (refine' TabSt.mono ?s8 htab; (case s8 => kp_flats)))
    (case up => exact Up.refl)
    (case th => first
      | exact Th.truth hbit beq_iff_eq
      | exact Th.truth hbit decide_eq_true_iff
      | (refine' Th.mono Up.refl ?s9 (hth9 _); (case s9 => (intro e9 he9; first | exact mem_l he9 | exact mem_l (mem_l he9))))
      | exact Th.char (by kct_strs) (by kct_strs) hbit rfl
      | exact Th.str (by kct_strs) (by kct_strs) (by kct_strs) hys hk0 hk3
      | exact Th.empty
      | exact Th.nothing))
  · obtain ⟨pa, pk, _, rfl, hpm⟩ := in_empty hdat
    refine wpAny_call ?_
    k_dflt (first | (refine' code_defC ?k1 ?k2 ?k3 ?k4 ?k5 ?kA ?kF ?kK ?k6 ?k7 ?k8 ?k9 ?kB ?kD ?_ ?c2 ?c3 ?c4; (case kA => exact rfl); (case kF => exact rfl); (case kK => assumption); (case k1 => k_asm); (case k2 => k_asm); (case k3 => k_asm); (case k4 => k_asm); (case k5 => k_asm); (case k6 => k_is); (case k7 => k_is); (case k8 => ktr_room); (case k9 => first | exact BindsTo.of_eq rfl | exact binds_K (by k_in) rfl (by k_is) rfl rfl rfl | fail "k_enter: no rule for these arguments"); (case kB => exact rfl); (case kD => decide +kernel); (case c2 => exact rfl); (case c3 => exact rfl); (case c4 => exact rfl); k_whole; intro g' L' h' tk' cells' FG' F' N' Y' B' X' T' l1; (try k_lt l1); k_cells Y'; (try simp only [List.cons_append, List.nil_append] at N'); (try dsimp only); (try k_lift B'); (try k_fold)) | ktr_enter)
    (with_reducible rename _ ∧ _ => l1e)
    obtain ⟨hRL, hDL, hAL⟩ := l1e
    k_steps
    all_goals (
    (rename Fr _ _ _ _ => kF)
    (rename News _ _ _ _ => kN)
    (iterate 24 (try ((with_reducible rename _ ∧ _ => hh9); obtain ⟨_, _⟩ := hh9)))
    refine' ret _ _ _ _ _ _ _ _ _ ?up ?th ?tab ?isd ?over ?oR ?oD kF (ret_ledger kN ?p1 ?p2 ?tl)
    (case p1 => (repeat' (first | exact Pick.head | (with_reducible refine' Pick.tail ?_) | (with_reducible refine' Pick.app ?_))))
    (case p2 => (repeat' (first | exact Pick.head | (with_reducible refine' Pick.tail ?_) | (with_reducible refine' Pick.app ?_))))
    (case tl => (repeat' (first | exact Tail.nil | (with_reducible refine' Tail.cons ?_) | (with_reducible refine' Tail.app ?_))))
    (case over => (repeat' (first | exact Over.nil | (with_reducible refine Over.cons ?_ ?_) | (with_reducible refine Over.app ?_ ?_) | exact apart_lt (by with_reducible assumption) | exact apart_lt (over_lt hAL (by omega)) | exact apart_lt (allLt_of (by with_reducible assumption)) | (refine' apart_lt (over_lt ?h91 ?h92); (case h92 => with_reducible assumption); (case h91 => first | with_reducible assumption | exact allLt_of (by with_reducible assumption))) | (intro e9 he9; exact apart_lt (by with_reducible assumption) e9 (by (repeat' (first | with_reducible exact he9 | (with_reducible refine mem_t ?_) | (with_reducible exact mem_l he9) | (with_reducible refine mem_r ?_))))) | (intro e9 he9; exact apart_off (by with_reducible assumption) e9 (by (repeat' (first | with_reducible exact he9 | (with_reducible refine mem_t ?_) | (with_reducible exact mem_l he9) | (with_reducible refine mem_r ?_))))) | (intro q9 hq9 e9 he9; exact (by with_reducible assumption : Over _ _) q9 hq9 e9 (by (repeat' (first | with_reducible exact he9 | (with_reducible refine mem_t ?_) | (with_reducible exact mem_l he9) | (with_reducible refine mem_r ?_))))))))
    (case oR => (repeat' (first | (with_reducible assumption) | exact List.forall_mem_nil _ | (with_reducible refine List.forall_mem_cons.mpr ⟨?_, ?_⟩) | (with_reducible refine List.forall_mem_append.mpr ⟨?_, ?_⟩) | (first | exact gt_ne (by with_reducible assumption) | exact Over.ne (by with_reducible assumption) (by ((repeat' (first | (with_reducible exact mem_h) | (with_reducible refine mem_t ?_) | (with_reducible assumption) | (with_reducible exact mem_l (by with_reducible assumption)) | (with_reducible refine mem_r ?_))); done)) | k_ne) | assumption)))
    (case oD => (repeat' (first | (with_reducible assumption) | exact List.forall_mem_nil _ | (with_reducible refine List.forall_mem_cons.mpr ⟨?_, ?_⟩) | (with_reducible refine List.forall_mem_append.mpr ⟨?_, ?_⟩) | (first | exact gt_ne (by with_reducible assumption) | exact Over.ne (by with_reducible assumption) (by ((repeat' (first | (with_reducible exact mem_h) | (with_reducible refine mem_t ?_) | (with_reducible assumption) | (with_reducible exact mem_l (by with_reducible assumption)) | (with_reducible refine mem_r ?_))); done)) | k_ne) | assumption)))
    (case isd => exact hDo)
    (case tab => (refine' TabSt.mono ?s8 htab; (case s8 => kp_flats)))
    (case up => exact Up.refl)
    (case th => first
      | exact Th.truth hbit beq_iff_eq
      | exact Th.truth hbit decide_eq_true_iff
      | (refine' Th.mono Up.refl ?s9 (hth9 _); (case s9 => (intro e9 he9; first | exact mem_l he9 | exact mem_l (mem_l he9))))
      | exact Th.char (by kct_strs) (by kct_strs) hbit rfl
      | exact Th.str (by kct_strs) (by kct_strs) (by kct_strs) hys hk0 hk3
      | exact Th.empty
      | exact Th.nothing))
  · obtain ⟨pa, pk, _, rfl, hpm⟩ := in_nothing hdat
    refine wpAny_call ?_
    k_dflt (first | (refine' code_defC ?k1 ?k2 ?k3 ?k4 ?k5 ?kA ?kF ?kK ?k6 ?k7 ?k8 ?k9 ?kB ?kD ?_ ?c2 ?c3 ?c4; (case kA => exact rfl); (case kF => exact rfl); (case kK => assumption); (case k1 => k_asm); (case k2 => k_asm); (case k3 => k_asm); (case k4 => k_asm); (case k5 => k_asm); (case k6 => k_is); (case k7 => k_is); (case k8 => ktr_room); (case k9 => first | exact BindsTo.of_eq rfl | exact binds_K (by k_in) rfl (by k_is) rfl rfl rfl | fail "k_enter: no rule for these arguments"); (case kB => exact rfl); (case kD => decide +kernel); (case c2 => exact rfl); (case c3 => exact rfl); (case c4 => exact rfl); k_whole; intro g' L' h' tk' cells' FG' F' N' Y' B' X' T' l1; (try k_lt l1); k_cells Y'; (try simp only [List.cons_append, List.nil_append] at N'); (try dsimp only); (try k_lift B'); (try k_fold)) | ktr_enter)
    (with_reducible rename _ ∧ _ => l1e)
    obtain ⟨hRL, hDL, hAL⟩ := l1e
    k_steps
    all_goals (
    (rename Fr _ _ _ _ => kF)
    (rename News _ _ _ _ => kN)
    (iterate 24 (try ((with_reducible rename _ ∧ _ => hh9); obtain ⟨_, _⟩ := hh9)))
    refine' ret _ _ _ _ _ _ _ _ _ ?up ?th ?tab ?isd ?over ?oR ?oD kF (ret_ledger kN ?p1 ?p2 ?tl)
    (case p1 => (repeat' (first | exact Pick.head | (with_reducible refine' Pick.tail ?_) | (with_reducible refine' Pick.app ?_))))
    (case p2 => (repeat' (first | exact Pick.head | (with_reducible refine' Pick.tail ?_) | (with_reducible refine' Pick.app ?_))))
    (case tl => (repeat' (first | exact Tail.nil | (with_reducible refine' Tail.cons ?_) | (with_reducible refine' Tail.app ?_))))
    (case over => (repeat' (first | exact Over.nil | (with_reducible refine Over.cons ?_ ?_) | (with_reducible refine Over.app ?_ ?_) | exact apart_lt (by with_reducible assumption) | exact apart_lt (over_lt hAL (by omega)) | exact apart_lt (allLt_of (by with_reducible assumption)) | (refine' apart_lt (over_lt ?h91 ?h92); (case h92 => with_reducible assumption); (case h91 => first | with_reducible assumption | exact allLt_of (by with_reducible assumption))) | (intro e9 he9; exact apart_lt (by with_reducible assumption) e9 (by (repeat' (first | with_reducible exact he9 | (with_reducible refine mem_t ?_) | (with_reducible exact mem_l he9) | (with_reducible refine mem_r ?_))))) | (intro e9 he9; exact apart_off (by with_reducible assumption) e9 (by (repeat' (first | with_reducible exact he9 | (with_reducible refine mem_t ?_) | (with_reducible exact mem_l he9) | (with_reducible refine mem_r ?_))))) | (intro q9 hq9 e9 he9; exact (by with_reducible assumption : Over _ _) q9 hq9 e9 (by (repeat' (first | with_reducible exact he9 | (with_reducible refine mem_t ?_) | (with_reducible exact mem_l he9) | (with_reducible refine mem_r ?_))))))))
    (case oR => (repeat' (first | (with_reducible assumption) | exact List.forall_mem_nil _ | (with_reducible refine List.forall_mem_cons.mpr ⟨?_, ?_⟩) | (with_reducible refine List.forall_mem_append.mpr ⟨?_, ?_⟩) | (first | exact gt_ne (by with_reducible assumption) | exact Over.ne (by with_reducible assumption) (by ((repeat' (first | (with_reducible exact mem_h) | (with_reducible refine mem_t ?_) | (with_reducible assumption) | (with_reducible exact mem_l (by with_reducible assumption)) | (with_reducible refine mem_r ?_))); done)) | k_ne) | assumption)))
    (case oD => (repeat' (first | (with_reducible assumption) | exact List.forall_mem_nil _ | (with_reducible refine List.forall_mem_cons.mpr ⟨?_, ?_⟩) | (with_reducible refine List.forall_mem_append.mpr ⟨?_, ?_⟩) | (first | exact gt_ne (by with_reducible assumption) | exact Over.ne (by with_reducible assumption) (by ((repeat' (first | (with_reducible exact mem_h) | (with_reducible refine mem_t ?_) | (with_reducible assumption) | (with_reducible exact mem_l (by with_reducible assumption)) | (with_reducible refine mem_r ?_))); done)) | k_ne) | assumption)))
    (case isd => exact hDo)
    (case tab => (refine' TabSt.mono ?s8 htab; (case s8 => kp_flats)))
    (case up => exact Up.refl)
    (case th => first
      | exact Th.truth hbit beq_iff_eq
      | exact Th.truth hbit decide_eq_true_iff
      | (refine' Th.mono Up.refl ?s9 (hth9 _); (case s9 => (intro e9 he9; first | exact mem_l he9 | exact mem_l (mem_l he9))))
      | exact Th.char (by kct_strs) (by kct_strs) hbit rfl
      | exact Th.str (by kct_strs) (by kct_strs) (by kct_strs) hys hk0 hk3
      | exact Th.empty
      | exact Th.nothing))
end
section
variable {prog : Program} {w : World} {p : Program} {loose : List Str} {mean : ExcName → Option Value} {mg mb : Str → Option Value}
set_option maxHeartbeats 4000000 in
theorem datum_sym (n : Nat) {dp un : Nat} {gd : Option (List Code)} {cn : Str} {cs : Scope} {a : Addr} {ccd : Value} {cl : List (Str × Addr)} {outer : List Env} {A₀ : Around} {base h₀ : Heap} {L : Addr} {m : Str → Option Value} {news : List (Addr × Obj)} {s : Shared} {Q E : Value → Shared → Prop}
    {ta td R D : Addr} {nt nR : Nat} {t1 t2 : Tok} {rows : List Value} {oD : Obj} {es : List (Str × Value)} {sy : List (Addr × Obj)} {f : Option Int} {v : Value} {i : Int}
    (B : Below A₀ base outer h₀) (F : Fr h₀ L s.heap m) (X : (Mine.hd.heap_39 w.params).In h₀)
    (N : News h₀ L s.heap ((R, listOf rows.toArray nR) :: (D, oD) :: news))
    (T : Top p loose mean mg mb h₀) (hk : cs.kind = .function) (hd : dp + (n + 12) < recursionLimit) (hu : un + (20 * n + 600) < cLine)
    (hRD : @Ne Nat R D) (hoR : ∀ p ∈ news, p.1 ≠ R) (hoD : ∀ p ∈ news, p.1 ≠ D)
    (hta : (ta, instObj 128 td) ∈ news) (htd : (td, dictOf [fld w.params (Str.ofString "rows") t1 (.ref R), fld w.params (Str.ofString "by_text") t2 (.ref D)] nt) ∈ news)
    (htab : TabSt w.params sy f rows es) (hsub : ∀ q ∈ sy, q ∈ news) (hDo : oD.IsDictOf (PySem.strKind prog w) es) (hlo : (D == sysModules) = false) (hdat : DatIn news v (Pic.sym i).dat) (hbit : BitOk i)
    (ret : ∀ (r : Value) (f' : Option Int) (rows' : List Value) nR' (es' : List (Str × Value)) oD' tl h' tk', Up f f' → Th w.params f' (tl ++ sy) r (.sym i) → TabSt w.params (tl ++ sy) f' rows' es' → oD'.IsDictOf (PySem.strKind prog w) es' → Over news tl → (∀ q ∈ tl, q.1 ≠ R) → (∀ q ∈ tl, q.1 ≠ D) →
      Fr h₀ L h' m → News h₀ L h' ((R, listOf rows'.toArray nR') :: (D, oD') :: (tl ++ news)) → Q r { s with heap := h', toks := tk' }) :
    wpAny (model prog w) (ktrTop dp un gd cn cs L a ccd cl outer) (call (.ref 475) [v, .ref ta]) Q E s := by
  w_top off
  k_with_none
  (k_with "subscriptTail" => (k_here; (with_reducible show wpAny _ _ (subscriptTail _ _ (Value.ref _) (Value.int _ _)) _ _ _); k_dflt (refine' tup_itemJ ?N ?m ?lo ?hi ?j ?x ?_; (case N => k_asm); (case m => k_mem); (case lo => decide); (case hi => decide); (case j => rfl); (case x => rfl); k_whole)))
  (k_with "CompEnd" => (k_here; (rename Fr _ _ _ _ => kF); (rename News _ _ _ _ => kN); k_dflt (
  refine' compEnd_pick kF kN ?pI ?pC ?pD ?off ?hS ?_
  (case pI => (repeat' (first | exact Pick.head | (with_reducible refine' Pick.tail ?_) | (with_reducible refine' Pick.app ?_))))
  (case pC => (repeat' (first | exact Pick.head | (with_reducible refine' Pick.tail ?_) | (with_reducible refine' Pick.app ?_))))
  (case pD => (repeat' (first | exact Pick.head | (with_reducible refine' Pick.tail ?_) | (with_reducible refine' Pick.app ?_))))
  (case off => (repeat' (first | exact List.forall_mem_nil _ | (with_reducible refine List.forall_mem_cons.mpr ⟨off3_addr (by with_reducible assumption) (by (repeat' (first | (with_reducible exact mem_h) | (with_reducible refine mem_t ?_) | (with_reducible refine mem_r ?_)))), ?_⟩) | (with_reducible refine List.forall_mem_append.mpr ⟨?_, ?_⟩) | exact off3_over (by with_reducible assumption) (by (repeat' (first | (with_reducible exact mem_h) | (with_reducible refine mem_t ?_) | (with_reducible refine mem_r ?_)))) (by (repeat' (first | (with_reducible exact mem_h) | (with_reducible refine mem_t ?_) | (with_reducible refine mem_r ?_)))) (by (repeat' (first | (with_reducible exact mem_h) | (with_reducible refine mem_t ?_) | (with_reducible refine mem_r ?_)))) | (intro e9 he9; exact LCg.Off3.mem (by with_reducible assumption) e9 (by (repeat' (first | with_reducible exact he9 | (with_reducible refine mem_t ?_) | (with_reducible exact mem_l he9) | (with_reducible refine mem_r ?_))))))))
  (case hS => first | exact trivial | lcg_src))))
  (k_with "FinE" => ((unfold LCg.FinE); intro D' h' tk' F' N' o1'; have o9 := o1'; (try simp only [LCg.Off1, and_true] at o1'); (try simp only [List.nil_append, List.cons_append] at N'); (try dsimp only)))
  (k_with "subscriptTail" => (k_here; (with_reducible show wpAny _ _ (subscriptTail (Expr.List _ _) _ (Value.ref _) (Value.int _ _)) _ _ _); k_dflt (refine' ab_item ?N ?m hbit ?_; (case N => k_asm); (case m => k_mem); k_whole); intro tab9))
  (k_with "getMethod ref" => (k_here; (with_reducible show wpAny _ _ (getMethod (Value.ref _) (Str.ofString "get") _) _ _ _); k_dflt (refine kdg_method (knd := PySem.strKind _ _) (by k_asm) (by k_mem) hDo ?_)))
  (k_with "call builtin:dict.get" => (k_here; k_dflt (refine kdg_get2 (knd := PySem.strKind _ _) (by k_asm) (by k_mem) hDo hlo (strKind_is _ _ _ _) _ hget ?_); (try dsimp only [Option.getD])))
  (k_with "setItem ref str" => (k_here; k_dflt (refine' kda_set (knd := PySem.strKind _ _) ?F ?N ?U hDo (strKind_is _ _ _ _) ?z ?_; (case F => k_asm); (case N => k_asm); (case U => k_updF); (case z => kob_size)); intro h' o' F' N' hd'; rw [hsto] at hd'; (try dsimp only at N')))
  obtain ⟨pa, pk, _, _, rfl, hpm⟩ := in_sym hdat
  cases htab with
  | nil =>
    have hget : valueAt ([] : List (Str × Value)) (abOne i) = none := rfl
    have hsto : ∀ v, stored ([] : List (Str × Value)) (abOne i) v = [(abOne i, v)] := fun v => stored_new fun _ h => nomatch h
    refine wpAny_call ?_
    k_dflt (first | (refine' code_defC ?k1 ?k2 ?k3 ?k4 ?k5 ?kA ?kF ?kK ?k6 ?k7 ?k8 ?k9 ?kB ?kD ?_ ?c2 ?c3 ?c4; (case kA => exact rfl); (case kF => exact rfl); (case kK => assumption); (case k1 => k_asm); (case k2 => k_asm); (case k3 => k_asm); (case k4 => k_asm); (case k5 => k_asm); (case k6 => k_is); (case k7 => k_is); (case k8 => ktr_room); (case k9 => first | exact BindsTo.of_eq rfl | exact binds_K (by k_in) rfl (by k_is) rfl rfl rfl | fail "k_enter: no rule for these arguments"); (case kB => exact rfl); (case kD => decide +kernel); (case c2 => exact rfl); (case c3 => exact rfl); (case c4 => exact rfl); k_whole; intro g' L' h' tk' cells' FG' F' N' Y' B' X' T' l1; (try k_lt l1); k_cells Y'; (try simp only [List.cons_append, List.nil_append] at N'); (try dsimp only); (try k_lift B'); (try k_fold)) | ktr_enter)
    (with_reducible rename _ ∧ _ => l1e)
    obtain ⟨hRL, hDL, hAL⟩ := l1e
    k_steps
    all_goals (
    (rename Fr _ _ _ _ => kF)
    (rename News _ _ _ _ => kN)
    (try simp only [List.push_toArray, List.nil_append, List.cons_append] at kN)
    (iterate 24 (try ((with_reducible rename _ ∧ _ => hh9); obtain ⟨_, _⟩ := hh9)))
    refine' ret _ _ _ _ _ _ _ _ _ ?up ?th ?tab ?isd ?over ?oR ?oD kF (ret_ledger kN ?p1 ?p2 ?tl)
    (case p1 => (repeat' (first | exact Pick.head | (with_reducible refine' Pick.tail ?_) | (with_reducible refine' Pick.app ?_))))
    (case p2 => (repeat' (first | exact Pick.head | (with_reducible refine' Pick.tail ?_) | (with_reducible refine' Pick.app ?_))))
    (case tl => (repeat' (first | exact Tail.nil | (with_reducible refine' Tail.cons ?_) | (with_reducible refine' Tail.app ?_))))
    (case over => (repeat' (first | exact Over.nil | (with_reducible refine Over.cons ?_ ?_) | (with_reducible refine Over.app ?_ ?_) | exact apart_lt (by with_reducible assumption) | exact apart_lt (over_lt hAL (by omega)) | exact apart_lt (allLt_of (by with_reducible assumption)) | (refine' apart_lt (over_lt ?h91 ?h92); (case h92 => with_reducible assumption); (case h91 => first | with_reducible assumption | exact allLt_of (by with_reducible assumption))) | (intro e9 he9; exact apart_lt (by with_reducible assumption) e9 (by (repeat' (first | with_reducible exact he9 | (with_reducible refine mem_t ?_) | (with_reducible exact mem_l he9) | (with_reducible refine mem_r ?_))))) | (intro e9 he9; exact apart_off (by with_reducible assumption) e9 (by (repeat' (first | with_reducible exact he9 | (with_reducible refine mem_t ?_) | (with_reducible exact mem_l he9) | (with_reducible refine mem_r ?_))))) | (intro q9 hq9 e9 he9; exact (by with_reducible assumption : Over _ _) q9 hq9 e9 (by (repeat' (first | with_reducible exact he9 | (with_reducible refine mem_t ?_) | (with_reducible exact mem_l he9) | (with_reducible refine mem_r ?_))))))))
    (case oR => (repeat' (first | (with_reducible assumption) | exact List.forall_mem_nil _ | (with_reducible refine List.forall_mem_cons.mpr ⟨?_, ?_⟩) | (with_reducible refine List.forall_mem_append.mpr ⟨?_, ?_⟩) | (first | exact gt_ne (by with_reducible assumption) | k_ne) | assumption)))
    (case oD => (repeat' (first | (with_reducible assumption) | exact List.forall_mem_nil _ | (with_reducible refine List.forall_mem_cons.mpr ⟨?_, ?_⟩) | (with_reducible refine List.forall_mem_append.mpr ⟨?_, ?_⟩) | (first | exact gt_ne (by with_reducible assumption) | k_ne) | assumption)))
    (case isd => with_reducible assumption)
    (case tab => first
      | (refine' TabSt.mono ?s8 htab; (case s8 => kp_flats))
      | (refine' TabSt.one hbit ?t8 ?t9; (case t8 => kct_strs); (case t9 => kct_strs))
      | (refine' TabSt.two hj hbit hij ?x6 ?x7 ?x8 ?x9; (case x6 => kct_strs); (case x7 => kct_strs); (case x8 => kct_strs); (case x9 => kct_strs)))
    (case up => first | exact Up.refl | exact Up.none)
    (case th => first
      | exact Th.sym rfl hbit (by kct_strs) (by kct_strs) (if_pos rfl).symm
      | exact Th.sym rfl hbit (by kct_strs) (by kct_strs) (if_neg hij).symm))
  | @one j x d9 n9 t19 t29 u19 u29 hj hx hd1 =>
    have htab : TabSt w.params sy (some j) [.ref x] [(abOne j, .ref x)] := .one hj hx hd1
    by_cases hij : i = j
    · subst hij
      have hget : valueAt [(abOne i, Value.ref x)] (abOne i) = some (.ref x) := at_hit
      have hhx : handedIn (.ref x) = true := rfl
      refine wpAny_call ?_
      k_dflt (first | (refine' code_defC ?k1 ?k2 ?k3 ?k4 ?k5 ?kA ?kF ?kK ?k6 ?k7 ?k8 ?k9 ?kB ?kD ?_ ?c2 ?c3 ?c4; (case kA => exact rfl); (case kF => exact rfl); (case kK => assumption); (case k1 => k_asm); (case k2 => k_asm); (case k3 => k_asm); (case k4 => k_asm); (case k5 => k_asm); (case k6 => k_is); (case k7 => k_is); (case k8 => ktr_room); (case k9 => first | exact BindsTo.of_eq rfl | exact binds_K (by k_in) rfl (by k_is) rfl rfl rfl | fail "k_enter: no rule for these arguments"); (case kB => exact rfl); (case kD => decide +kernel); (case c2 => exact rfl); (case c3 => exact rfl); (case c4 => exact rfl); k_whole; intro g' L' h' tk' cells' FG' F' N' Y' B' X' T' l1; (try k_lt l1); k_cells Y'; (try simp only [List.cons_append, List.nil_append] at N'); (try dsimp only); (try k_lift B'); (try k_fold)) | ktr_enter)
      (with_reducible rename _ ∧ _ => l1e)
      obtain ⟨hRL, hDL, hAL⟩ := l1e
      k_steps
      all_goals (
    (rename Fr _ _ _ _ => kF)
    (rename News _ _ _ _ => kN)
    (try simp only [List.push_toArray, List.nil_append, List.cons_append] at kN)
    (iterate 24 (try ((with_reducible rename _ ∧ _ => hh9); obtain ⟨_, _⟩ := hh9)))
    refine' ret _ _ _ _ _ _ _ _ _ ?up ?th ?tab ?isd ?over ?oR ?oD kF (ret_ledger kN ?p1 ?p2 ?tl)
    (case p1 => (repeat' (first | exact Pick.head | (with_reducible refine' Pick.tail ?_) | (with_reducible refine' Pick.app ?_))))
    (case p2 => (repeat' (first | exact Pick.head | (with_reducible refine' Pick.tail ?_) | (with_reducible refine' Pick.app ?_))))
    (case tl => (repeat' (first | exact Tail.nil | (with_reducible refine' Tail.cons ?_) | (with_reducible refine' Tail.app ?_))))
    (case over => (repeat' (first | exact Over.nil | (with_reducible refine Over.cons ?_ ?_) | (with_reducible refine Over.app ?_ ?_) | exact apart_lt (by with_reducible assumption) | exact apart_lt (over_lt hAL (by omega)) | exact apart_lt (allLt_of (by with_reducible assumption)) | (refine' apart_lt (over_lt ?h91 ?h92); (case h92 => with_reducible assumption); (case h91 => first | with_reducible assumption | exact allLt_of (by with_reducible assumption))) | (intro e9 he9; exact apart_lt (by with_reducible assumption) e9 (by (repeat' (first | with_reducible exact he9 | (with_reducible refine mem_t ?_) | (with_reducible exact mem_l he9) | (with_reducible refine mem_r ?_))))) | (intro e9 he9; exact apart_off (by with_reducible assumption) e9 (by (repeat' (first | with_reducible exact he9 | (with_reducible refine mem_t ?_) | (with_reducible exact mem_l he9) | (with_reducible refine mem_r ?_))))) | (intro q9 hq9 e9 he9; exact (by with_reducible assumption : Over _ _) q9 hq9 e9 (by (repeat' (first | with_reducible exact he9 | (with_reducible refine mem_t ?_) | (with_reducible exact mem_l he9) | (with_reducible refine mem_r ?_))))))))
    (case oR => (repeat' (first | (with_reducible assumption) | exact List.forall_mem_nil _ | (with_reducible refine List.forall_mem_cons.mpr ⟨?_, ?_⟩) | (with_reducible refine List.forall_mem_append.mpr ⟨?_, ?_⟩) | (first | exact gt_ne (by with_reducible assumption) | k_ne) | assumption)))
    (case oD => (repeat' (first | (with_reducible assumption) | exact List.forall_mem_nil _ | (with_reducible refine List.forall_mem_cons.mpr ⟨?_, ?_⟩) | (with_reducible refine List.forall_mem_append.mpr ⟨?_, ?_⟩) | (first | exact gt_ne (by with_reducible assumption) | k_ne) | assumption)))
    (case isd => with_reducible assumption)
    (case tab => first
      | (refine' TabSt.mono ?s8 htab; (case s8 => kp_flats))
      | (refine' TabSt.one hbit ?t8 ?t9; (case t8 => kct_strs); (case t9 => kct_strs))
      | (refine' TabSt.two hj hbit hij ?x6 ?x7 ?x8 ?x9; (case x6 => kct_strs); (case x7 => kct_strs); (case x8 => kct_strs); (case x9 => kct_strs)))
    (case up => first | exact Up.refl | exact Up.none)
    (case th => first
      | exact Th.sym rfl hbit (by kct_strs) (by kct_strs) (if_pos rfl).symm
      | exact Th.sym rfl hbit (by kct_strs) (by kct_strs) (if_neg hij).symm))
    · have hget : valueAt [(abOne j, Value.ref x)] (abOne i) = none := at_miss (abOne_ne hbit hj hij)
      have hsto : ∀ v, stored [(abOne j, Value.ref x)] (abOne i) v = [(abOne j, .ref x), (abOne i, v)] := fun v => stored_new fun p hp => by
        rw [List.mem_singleton.mp hp]; exact abOne_ne hj hbit (Ne.symm hij)
      refine wpAny_call ?_
      k_dflt (first | (refine' code_defC ?k1 ?k2 ?k3 ?k4 ?k5 ?kA ?kF ?kK ?k6 ?k7 ?k8 ?k9 ?kB ?kD ?_ ?c2 ?c3 ?c4; (case kA => exact rfl); (case kF => exact rfl); (case kK => assumption); (case k1 => k_asm); (case k2 => k_asm); (case k3 => k_asm); (case k4 => k_asm); (case k5 => k_asm); (case k6 => k_is); (case k7 => k_is); (case k8 => ktr_room); (case k9 => first | exact BindsTo.of_eq rfl | exact binds_K (by k_in) rfl (by k_is) rfl rfl rfl | fail "k_enter: no rule for these arguments"); (case kB => exact rfl); (case kD => decide +kernel); (case c2 => exact rfl); (case c3 => exact rfl); (case c4 => exact rfl); k_whole; intro g' L' h' tk' cells' FG' F' N' Y' B' X' T' l1; (try k_lt l1); k_cells Y'; (try simp only [List.cons_append, List.nil_append] at N'); (try dsimp only); (try k_lift B'); (try k_fold)) | ktr_enter)
      (with_reducible rename _ ∧ _ => l1e)
      obtain ⟨hRL, hDL, hAL⟩ := l1e
      k_steps
      all_goals (
    (rename Fr _ _ _ _ => kF)
    (rename News _ _ _ _ => kN)
    (try simp only [List.push_toArray, List.nil_append, List.cons_append] at kN)
    (iterate 24 (try ((with_reducible rename _ ∧ _ => hh9); obtain ⟨_, _⟩ := hh9)))
    refine' ret _ _ _ _ _ _ _ _ _ ?up ?th ?tab ?isd ?over ?oR ?oD kF (ret_ledger kN ?p1 ?p2 ?tl)
    (case p1 => (repeat' (first | exact Pick.head | (with_reducible refine' Pick.tail ?_) | (with_reducible refine' Pick.app ?_))))
    (case p2 => (repeat' (first | exact Pick.head | (with_reducible refine' Pick.tail ?_) | (with_reducible refine' Pick.app ?_))))
    (case tl => (repeat' (first | exact Tail.nil | (with_reducible refine' Tail.cons ?_) | (with_reducible refine' Tail.app ?_))))
    (case over => (repeat' (first | exact Over.nil | (with_reducible refine Over.cons ?_ ?_) | (with_reducible refine Over.app ?_ ?_) | exact apart_lt (by with_reducible assumption) | exact apart_lt (over_lt hAL (by omega)) | exact apart_lt (allLt_of (by with_reducible assumption)) | (refine' apart_lt (over_lt ?h91 ?h92); (case h92 => with_reducible assumption); (case h91 => first | with_reducible assumption | exact allLt_of (by with_reducible assumption))) | (intro e9 he9; exact apart_lt (by with_reducible assumption) e9 (by (repeat' (first | with_reducible exact he9 | (with_reducible refine mem_t ?_) | (with_reducible exact mem_l he9) | (with_reducible refine mem_r ?_))))) | (intro e9 he9; exact apart_off (by with_reducible assumption) e9 (by (repeat' (first | with_reducible exact he9 | (with_reducible refine mem_t ?_) | (with_reducible exact mem_l he9) | (with_reducible refine mem_r ?_))))) | (intro q9 hq9 e9 he9; exact (by with_reducible assumption : Over _ _) q9 hq9 e9 (by (repeat' (first | with_reducible exact he9 | (with_reducible refine mem_t ?_) | (with_reducible exact mem_l he9) | (with_reducible refine mem_r ?_))))))))
    (case oR => (repeat' (first | (with_reducible assumption) | exact List.forall_mem_nil _ | (with_reducible refine List.forall_mem_cons.mpr ⟨?_, ?_⟩) | (with_reducible refine List.forall_mem_append.mpr ⟨?_, ?_⟩) | (first | exact gt_ne (by with_reducible assumption) | k_ne) | assumption)))
    (case oD => (repeat' (first | (with_reducible assumption) | exact List.forall_mem_nil _ | (with_reducible refine List.forall_mem_cons.mpr ⟨?_, ?_⟩) | (with_reducible refine List.forall_mem_append.mpr ⟨?_, ?_⟩) | (first | exact gt_ne (by with_reducible assumption) | k_ne) | assumption)))
    (case isd => with_reducible assumption)
    (case tab => first
      | (refine' TabSt.mono ?s8 htab; (case s8 => kp_flats))
      | (refine' TabSt.one hbit ?t8 ?t9; (case t8 => kct_strs); (case t9 => kct_strs))
      | (refine' TabSt.two hj hbit hij ?x6 ?x7 ?x8 ?x9; (case x6 => kct_strs); (case x7 => kct_strs); (case x8 => kct_strs); (case x9 => kct_strs)))
    (case up => first | exact Up.refl | exact Up.none)
    (case th => first
      | exact Th.sym rfl hbit (by kct_strs) (by kct_strs) (if_pos rfl).symm
      | exact Th.sym rfl hbit (by kct_strs) (by kct_strs) (if_neg hij).symm))
  | @two j k x d9 y e9 n9 n29 t19 t29 u19 u29 t39 t49 u39 u49 hj hk hjk hx hd1 hy he1 =>
    have htab : TabSt w.params sy (some j) [.ref x, .ref y] [(abOne j, .ref x), (abOne k, .ref y)] := .two hj hk hjk hx hd1 hy he1
    by_cases hij : i = j
    · subst hij
      have hget : valueAt [(abOne i, Value.ref x), (abOne k, .ref y)] (abOne i) = some (.ref x) := at_hit
      refine wpAny_call ?_
      k_dflt (first | (refine' code_defC ?k1 ?k2 ?k3 ?k4 ?k5 ?kA ?kF ?kK ?k6 ?k7 ?k8 ?k9 ?kB ?kD ?_ ?c2 ?c3 ?c4; (case kA => exact rfl); (case kF => exact rfl); (case kK => assumption); (case k1 => k_asm); (case k2 => k_asm); (case k3 => k_asm); (case k4 => k_asm); (case k5 => k_asm); (case k6 => k_is); (case k7 => k_is); (case k8 => ktr_room); (case k9 => first | exact BindsTo.of_eq rfl | exact binds_K (by k_in) rfl (by k_is) rfl rfl rfl | fail "k_enter: no rule for these arguments"); (case kB => exact rfl); (case kD => decide +kernel); (case c2 => exact rfl); (case c3 => exact rfl); (case c4 => exact rfl); k_whole; intro g' L' h' tk' cells' FG' F' N' Y' B' X' T' l1; (try k_lt l1); k_cells Y'; (try simp only [List.cons_append, List.nil_append] at N'); (try dsimp only); (try k_lift B'); (try k_fold)) | ktr_enter)
      (with_reducible rename _ ∧ _ => l1e)
      obtain ⟨hRL, hDL, hAL⟩ := l1e
      k_steps
      all_goals (
    (rename Fr _ _ _ _ => kF)
    (rename News _ _ _ _ => kN)
    (try simp only [List.push_toArray, List.nil_append, List.cons_append] at kN)
    (iterate 24 (try ((with_reducible rename _ ∧ _ => hh9); obtain ⟨_, _⟩ := hh9)))
    refine' ret _ _ _ _ _ _ _ _ _ ?up ?th ?tab ?isd ?over ?oR ?oD kF (ret_ledger kN ?p1 ?p2 ?tl)
    (case p1 => (repeat' (first | exact Pick.head | (with_reducible refine' Pick.tail ?_) | (with_reducible refine' Pick.app ?_))))
    (case p2 => (repeat' (first | exact Pick.head | (with_reducible refine' Pick.tail ?_) | (with_reducible refine' Pick.app ?_))))
    (case tl => (repeat' (first | exact Tail.nil | (with_reducible refine' Tail.cons ?_) | (with_reducible refine' Tail.app ?_))))
    (case over => (repeat' (first | exact Over.nil | (with_reducible refine Over.cons ?_ ?_) | (with_reducible refine Over.app ?_ ?_) | exact apart_lt (by with_reducible assumption) | exact apart_lt (over_lt hAL (by omega)) | exact apart_lt (allLt_of (by with_reducible assumption)) | (refine' apart_lt (over_lt ?h91 ?h92); (case h92 => with_reducible assumption); (case h91 => first | with_reducible assumption | exact allLt_of (by with_reducible assumption))) | (intro e9 he9; exact apart_lt (by with_reducible assumption) e9 (by (repeat' (first | with_reducible exact he9 | (with_reducible refine mem_t ?_) | (with_reducible exact mem_l he9) | (with_reducible refine mem_r ?_))))) | (intro e9 he9; exact apart_off (by with_reducible assumption) e9 (by (repeat' (first | with_reducible exact he9 | (with_reducible refine mem_t ?_) | (with_reducible exact mem_l he9) | (with_reducible refine mem_r ?_))))) | (intro q9 hq9 e9 he9; exact (by with_reducible assumption : Over _ _) q9 hq9 e9 (by (repeat' (first | with_reducible exact he9 | (with_reducible refine mem_t ?_) | (with_reducible exact mem_l he9) | (with_reducible refine mem_r ?_))))))))
    (case oR => (repeat' (first | (with_reducible assumption) | exact List.forall_mem_nil _ | (with_reducible refine List.forall_mem_cons.mpr ⟨?_, ?_⟩) | (with_reducible refine List.forall_mem_append.mpr ⟨?_, ?_⟩) | (first | exact gt_ne (by with_reducible assumption) | k_ne) | assumption)))
    (case oD => (repeat' (first | (with_reducible assumption) | exact List.forall_mem_nil _ | (with_reducible refine List.forall_mem_cons.mpr ⟨?_, ?_⟩) | (with_reducible refine List.forall_mem_append.mpr ⟨?_, ?_⟩) | (first | exact gt_ne (by with_reducible assumption) | k_ne) | assumption)))
    (case isd => with_reducible assumption)
    (case tab => first
      | (refine' TabSt.mono ?s8 htab; (case s8 => kp_flats))
      | (refine' TabSt.one hbit ?t8 ?t9; (case t8 => kct_strs); (case t9 => kct_strs))
      | (refine' TabSt.two hj hbit hij ?x6 ?x7 ?x8 ?x9; (case x6 => kct_strs); (case x7 => kct_strs); (case x8 => kct_strs); (case x9 => kct_strs)))
    (case up => first | exact Up.refl | exact Up.none)
    (case th => first
      | exact Th.sym rfl hbit (by kct_strs) (by kct_strs) (if_pos rfl).symm
      | exact Th.sym rfl hbit (by kct_strs) (by kct_strs) (if_neg hij).symm))
    · have hik : i = k := by unfold BitOk at *; omega
      subst hik
      have hget : valueAt [(abOne j, Value.ref x), (abOne i, .ref y)] (abOne i) = some (.ref y) := (at_miss (abOne_ne hbit hj hij)).trans at_hit
      refine wpAny_call ?_
      k_dflt (first | (refine' code_defC ?k1 ?k2 ?k3 ?k4 ?k5 ?kA ?kF ?kK ?k6 ?k7 ?k8 ?k9 ?kB ?kD ?_ ?c2 ?c3 ?c4; (case kA => exact rfl); (case kF => exact rfl); (case kK => assumption); (case k1 => k_asm); (case k2 => k_asm); (case k3 => k_asm); (case k4 => k_asm); (case k5 => k_asm); (case k6 => k_is); (case k7 => k_is); (case k8 => ktr_room); (case k9 => first | exact BindsTo.of_eq rfl | exact binds_K (by k_in) rfl (by k_is) rfl rfl rfl | fail "k_enter: no rule for these arguments"); (case kB => exact rfl); (case kD => decide +kernel); (case c2 => exact rfl); (case c3 => exact rfl); (case c4 => exact rfl); k_whole; intro g' L' h' tk' cells' FG' F' N' Y' B' X' T' l1; (try k_lt l1); k_cells Y'; (try simp only [List.cons_append, List.nil_append] at N'); (try dsimp only); (try k_lift B'); (try k_fold)) | ktr_enter)
      (with_reducible rename _ ∧ _ => l1e)
      obtain ⟨hRL, hDL, hAL⟩ := l1e
      k_steps
      all_goals (
    (rename Fr _ _ _ _ => kF)
    (rename News _ _ _ _ => kN)
    (try simp only [List.push_toArray, List.nil_append, List.cons_append] at kN)
    (iterate 24 (try ((with_reducible rename _ ∧ _ => hh9); obtain ⟨_, _⟩ := hh9)))
    refine' ret _ _ _ _ _ _ _ _ _ ?up ?th ?tab ?isd ?over ?oR ?oD kF (ret_ledger kN ?p1 ?p2 ?tl)
    (case p1 => (repeat' (first | exact Pick.head | (with_reducible refine' Pick.tail ?_) | (with_reducible refine' Pick.app ?_))))
    (case p2 => (repeat' (first | exact Pick.head | (with_reducible refine' Pick.tail ?_) | (with_reducible refine' Pick.app ?_))))
    (case tl => (repeat' (first | exact Tail.nil | (with_reducible refine' Tail.cons ?_) | (with_reducible refine' Tail.app ?_))))
    (case over => (repeat' (first | exact Over.nil | (with_reducible refine Over.cons ?_ ?_) | (with_reducible refine Over.app ?_ ?_) | exact apart_lt (by with_reducible assumption) | exact apart_lt (over_lt hAL (by omega)) | exact apart_lt (allLt_of (by with_reducible assumption)) | (refine' apart_lt (over_lt ?h91 ?h92); (case h92 => with_reducible assumption); (case h91 => first | with_reducible assumption | exact allLt_of (by with_reducible assumption))) | (intro e9 he9; exact apart_lt (by with_reducible assumption) e9 (by (repeat' (first | with_reducible exact he9 | (with_reducible refine mem_t ?_) | (with_reducible exact mem_l he9) | (with_reducible refine mem_r ?_))))) | (intro e9 he9; exact apart_off (by with_reducible assumption) e9 (by (repeat' (first | with_reducible exact he9 | (with_reducible refine mem_t ?_) | (with_reducible exact mem_l he9) | (with_reducible refine mem_r ?_))))) | (intro q9 hq9 e9 he9; exact (by with_reducible assumption : Over _ _) q9 hq9 e9 (by (repeat' (first | with_reducible exact he9 | (with_reducible refine mem_t ?_) | (with_reducible exact mem_l he9) | (with_reducible refine mem_r ?_))))))))
    (case oR => (repeat' (first | (with_reducible assumption) | exact List.forall_mem_nil _ | (with_reducible refine List.forall_mem_cons.mpr ⟨?_, ?_⟩) | (with_reducible refine List.forall_mem_append.mpr ⟨?_, ?_⟩) | (first | exact gt_ne (by with_reducible assumption) | k_ne) | assumption)))
    (case oD => (repeat' (first | (with_reducible assumption) | exact List.forall_mem_nil _ | (with_reducible refine List.forall_mem_cons.mpr ⟨?_, ?_⟩) | (with_reducible refine List.forall_mem_append.mpr ⟨?_, ?_⟩) | (first | exact gt_ne (by with_reducible assumption) | k_ne) | assumption)))
    (case isd => with_reducible assumption)
    (case tab => first
      | (refine' TabSt.mono ?s8 htab; (case s8 => kp_flats))
      | (refine' TabSt.one hbit ?t8 ?t9; (case t8 => kct_strs); (case t9 => kct_strs))
      | (refine' TabSt.two hj hbit hij ?x6 ?x7 ?x8 ?x9; (case x6 => kct_strs); (case x7 => kct_strs); (case x8 => kct_strs); (case x9 => kct_strs)))
    (case up => first | exact Up.refl | exact Up.none)
    (case th => first
      | exact Th.sym rfl hbit (by kct_strs) (by kct_strs) (if_pos rfl).symm
      | exact Th.sym rfl hbit (by kct_strs) (by kct_strs) (if_neg hij).symm))
end
theorem room_ds {dp n R : Nat} (h : dp + (n + 1 + 12) < R) : dp + 1 + (n + 12) < R := by omega
theorem units_ds {un n R : Nat} (h : un + (20 * (n + 1) + 600) < R) : un + 3 + (20 * n + 600) < R := by omega
section
variable {prog : Program} {w : World} {p : Program} {loose : List Str} {mean : ExcName → Option Value} {mg mb : Str → Option Value}
set_option maxHeartbeats 4000000 in
theorem datum_pair (n : Nat) (IH : DatumC prog w p loose mean mg mb n) {dp un : Nat} {gd : Option (List Code)} {cn : Str} {cs : Scope} {a : Addr} {ccd : Value} {cl : List (Str × Addr)} {outer : List Env} {A₀ : Around} {base h₀ : Heap} {L : Addr} {m : Str → Option Value} {news : List (Addr × Obj)} {s : Shared} {Q E : Value → Shared → Prop}
    {ta td R D : Addr} {nt nR : Nat} {t1 t2 : Tok} {rows : List Value} {oD : Obj} {es : List (Str × Value)} {sy : List (Addr × Obj)} {f : Option Int} {v : Value} {pp pq : Pic}
    (B : Below A₀ base outer h₀) (F : Fr h₀ L s.heap m) (X : (Mine.hd.heap_39 w.params).In h₀)
    (N : News h₀ L s.heap ((R, listOf rows.toArray nR) :: (D, oD) :: news))
    (T : Top p loose mean mg mb h₀) (hk : cs.kind = .function) (hd : dp + (n + 1 + 12) < recursionLimit) (hu : un + (20 * (n + 1) + 600) < cLine)
    (hRD : @Ne Nat R D) (hoR : ∀ p ∈ news, p.1 ≠ R) (hoD : ∀ p ∈ news, p.1 ≠ D)
    (hta : (ta, instObj 128 td) ∈ news) (htd : (td, dictOf [fld w.params (Str.ofString "rows") t1 (.ref R), fld w.params (Str.ofString "by_text") t2 (.ref D)] nt) ∈ news)
    (htab : TabSt w.params sy f rows es) (hsub : ∀ q ∈ sy, q ∈ news) (hDo : oD.IsDictOf (PySem.strKind prog w) es) (hlo : (D == sysModules) = false) (hdat : DatIn news v (Pic.pair pp pq).dat) (ho1 : Ok 4 n pp) (ho2 : Ok 4 n pq)
    (ret : ∀ (r : Value) (f' : Option Int) (rows' : List Value) nR' (es' : List (Str × Value)) oD' tl h' tk', Up f f' → Th w.params f' (tl ++ sy) r (.pair pp pq) → TabSt w.params (tl ++ sy) f' rows' es' → oD'.IsDictOf (PySem.strKind prog w) es' → Over news tl → (∀ q ∈ tl, q.1 ≠ R) → (∀ q ∈ tl, q.1 ≠ D) →
      Fr h₀ L h' m → News h₀ L h' ((R, listOf rows'.toArray nR') :: (D, oD') :: (tl ++ news)) → Q r { s with heap := h', toks := tk' }) :
    wpAny (model prog w) (ktrTop dp un gd cn cs L a ccd cl outer) (call (.ref 475) [v, .ref ta]) Q E s := by
  w_top off
  k_with_none
  (k_with "subscriptTail" => (k_here; (with_reducible show wpAny _ _ (subscriptTail _ _ (Value.ref _) (Value.int _ _)) _ _ _); k_dflt (refine' tup_itemJ ?N ?m ?lo ?hi ?j ?x ?_; (case N => k_asm); (case m => k_mem); (case lo => decide); (case hi => decide); (case j => rfl); (case x => rfl); k_whole)))
  (k_with "CompEnd" => (k_here; (rename Fr _ _ _ _ => kF); (rename News _ _ _ _ => kN); k_dflt (
  refine' compEnd_pick kF kN ?pI ?pC ?pD ?off ?hS ?_
  (case pI => (repeat' (first | exact Pick.head | (with_reducible refine' Pick.tail ?_) | (with_reducible refine' Pick.app ?_))))
  (case pC => (repeat' (first | exact Pick.head | (with_reducible refine' Pick.tail ?_) | (with_reducible refine' Pick.app ?_))))
  (case pD => (repeat' (first | exact Pick.head | (with_reducible refine' Pick.tail ?_) | (with_reducible refine' Pick.app ?_))))
  (case off => (repeat' (first | exact List.forall_mem_nil _ | (with_reducible refine List.forall_mem_cons.mpr ⟨off3_addr (by with_reducible assumption) (by (repeat' (first | (with_reducible exact mem_h) | (with_reducible refine mem_t ?_) | (with_reducible refine mem_r ?_)))), ?_⟩) | (with_reducible refine List.forall_mem_append.mpr ⟨?_, ?_⟩) | exact off3_over (by with_reducible assumption) (by (repeat' (first | (with_reducible exact mem_h) | (with_reducible refine mem_t ?_) | (with_reducible refine mem_r ?_)))) (by (repeat' (first | (with_reducible exact mem_h) | (with_reducible refine mem_t ?_) | (with_reducible refine mem_r ?_)))) (by (repeat' (first | (with_reducible exact mem_h) | (with_reducible refine mem_t ?_) | (with_reducible refine mem_r ?_)))) | (intro e9 he9; exact LCg.Off3.mem (by with_reducible assumption) e9 (by (repeat' (first | with_reducible exact he9 | (with_reducible refine mem_t ?_) | (with_reducible exact mem_l he9) | (with_reducible refine mem_r ?_))))))))
  (case hS => first | exact trivial | lcg_src))))
  (k_with "FinE" => ((unfold LCg.FinE); intro D' h' tk' F' N' o1'; have o9 := o1'; (try simp only [LCg.Off1, and_true] at o1'); (try simp only [List.nil_append, List.cons_append] at N'); (try dsimp only)))
  (k_with "call ref" => (k_here; (with_reducible show wpAny _ _ (call (Value.ref 475) _) _ _ _); k_dflt (
  refine' IH (R := R) (D := D) ?kB ?kF ?kX ?kN ?p1 ?p2 ?kT ?kk ?kd ?ku ?dl ?od ?ol ?ta9 ?td9 ?tab9 ?su9 ?is9 ?lo9 ?dat9 ?ok9 ?_
  (case kB => k_asm)
  (case kF => k_asm)
  (case kX => k_asm)
  (case kN => k_asm)
  (case p1 => (repeat' (first | exact Pick.head | (with_reducible refine' Pick.tail ?_) | (with_reducible refine' Pick.app ?_))))
  (case p2 => (repeat' (first | exact Pick.head | (with_reducible refine' Pick.tail ?_) | (with_reducible refine' Pick.app ?_))))
  (case kT => k_asm)
  (case kk => first | exact rfl | assumption)
  (case kd => exact room_ds (by with_reducible assumption))
  (case ku => exact units_ds (by with_reducible assumption))
  (case dl => assumption)
  (case od => (repeat' (first | (with_reducible assumption) | exact List.forall_mem_nil _ | (with_reducible refine List.forall_mem_cons.mpr ⟨?_, ?_⟩) | (with_reducible refine List.forall_mem_append.mpr ⟨?_, ?_⟩) | (first | exact gt_ne (by with_reducible assumption) | exact off_I (by with_reducible assumption) (by (repeat' (first | (with_reducible exact mem_h) | (with_reducible refine mem_t ?_) | (with_reducible refine mem_r ?_)))) | exact off_C (by with_reducible assumption) (by (repeat' (first | (with_reducible exact mem_h) | (with_reducible refine mem_t ?_) | (with_reducible refine mem_r ?_)))) | exact off_D (by with_reducible assumption) (by (repeat' (first | (with_reducible exact mem_h) | (with_reducible refine mem_t ?_) | (with_reducible refine mem_r ?_)))) | exact off_1 (by with_reducible assumption) (by (repeat' (first | (with_reducible exact mem_h) | (with_reducible refine mem_t ?_) | (with_reducible refine mem_r ?_)))) | k_ne) | assumption)))
  (case ol => (repeat' (first | (with_reducible assumption) | exact List.forall_mem_nil _ | (with_reducible refine List.forall_mem_cons.mpr ⟨?_, ?_⟩) | (with_reducible refine List.forall_mem_append.mpr ⟨?_, ?_⟩) | (first | exact gt_ne (by with_reducible assumption) | exact off_I (by with_reducible assumption) (by (repeat' (first | (with_reducible exact mem_h) | (with_reducible refine mem_t ?_) | (with_reducible refine mem_r ?_)))) | exact off_C (by with_reducible assumption) (by (repeat' (first | (with_reducible exact mem_h) | (with_reducible refine mem_t ?_) | (with_reducible refine mem_r ?_)))) | exact off_D (by with_reducible assumption) (by (repeat' (first | (with_reducible exact mem_h) | (with_reducible refine mem_t ?_) | (with_reducible refine mem_r ?_)))) | exact off_1 (by with_reducible assumption) (by (repeat' (first | (with_reducible exact mem_h) | (with_reducible refine mem_t ?_) | (with_reducible refine mem_r ?_)))) | k_ne) | assumption)))
  (case ta9 => k_mem)
  (case td9 => k_mem)
  (case tab9 => (rename TabSt _ _ _ _ _ => htb9; exact htb9))
  (case su9 => kp_flats)
  (case is9 => with_reducible assumption)
  (case lo9 => exact hlo)
  (case dat9 => (refine' DatIn.mono ?s9 ?h9; (case h9 => (with_reducible assumption)); (case s9 => kp_flats)))
  (case ok9 => with_reducible assumption)
  k_whole
  intro r9 f9 rows9 nR9 es9 oD9 tl9 h9 tk9 hup9 hth9 htab9 hisd9 hov9 hoR9 hoD9 F9 N9
  have hhd9 := hth9.handed
  (try k_sweep)
  (try dsimp only)
  (try k_fold))))
  obtain ⟨pa, pk, _, v1, v2, rfl, hpm, hd1, hd2⟩ := in_pair hdat
  have hh1 := hd1.handed
  have hh2 := hd2.handed
  refine wpAny_call ?_
  k_dflt (first | (refine' code_defC ?k1 ?k2 ?k3 ?k4 ?k5 ?kA ?kF ?kK ?k6 ?k7 ?k8 ?k9 ?kB ?kD ?_ ?c2 ?c3 ?c4; (case kA => exact rfl); (case kF => exact rfl); (case kK => assumption); (case k1 => k_asm); (case k2 => k_asm); (case k3 => k_asm); (case k4 => k_asm); (case k5 => k_asm); (case k6 => k_is); (case k7 => k_is); (case k8 => ktr_room); (case k9 => first | exact BindsTo.of_eq rfl | exact binds_K (by k_in) rfl (by k_is) rfl rfl rfl | fail "k_enter: no rule for these arguments"); (case kB => exact rfl); (case kD => decide +kernel); (case c2 => exact rfl); (case c3 => exact rfl); (case c4 => exact rfl); k_whole; intro g' L' h' tk' cells' FG' F' N' Y' B' X' T' l1; (try k_lt l1); k_cells Y'; (try simp only [List.cons_append, List.nil_append] at N'); (try dsimp only); (try k_lift B'); (try k_fold)) | ktr_enter)
  (with_reducible rename _ ∧ _ => l1e)
  obtain ⟨hRL, hDL, hAL⟩ := l1e
  k_steps
  all_goals (
    (rename Fr _ _ _ _ => kF)
    (rename News _ _ _ _ => kN)
    (iterate 24 (try ((with_reducible rename _ ∧ _ => hh9); obtain ⟨_, _⟩ := hh9)))
    refine' ret _ _ _ _ _ _ _ _ _ ?up ?th ?tab ?isd ?over ?oR ?oD kF (ret_ledger kN ?p1 ?p2 ?tl)
    (case p1 => (repeat' (first | exact Pick.head | (with_reducible refine' Pick.tail ?_) | (with_reducible refine' Pick.app ?_))))
    (case p2 => (repeat' (first | exact Pick.head | (with_reducible refine' Pick.tail ?_) | (with_reducible refine' Pick.app ?_))))
    (case tl => (repeat' (first | exact Tail.nil | (with_reducible refine' Tail.cons ?_) | (with_reducible refine' Tail.app ?_))))
    (case over => (repeat' (first | exact Over.nil | (with_reducible refine Over.cons ?_ ?_) | (with_reducible refine Over.app ?_ ?_) | exact apart_lt (by with_reducible assumption) | exact apart_lt (over_lt hAL (by omega)) | exact apart_lt (allLt_of (by with_reducible assumption)) | (refine' apart_lt (over_lt ?h91 ?h92); (case h92 => with_reducible assumption); (case h91 => first | with_reducible assumption | exact allLt_of (by with_reducible assumption))) | (intro e9 he9; refine' apart_lt (over_lt ?h91 ?h92) e9 ?m91; (case h92 => with_reducible assumption); (case h91 => with_reducible assumption); (case m91 => (repeat' (first | with_reducible exact he9 | (with_reducible refine mem_t ?_) | (with_reducible exact mem_l he9) | (with_reducible refine mem_r ?_))))) | (intro e9 he9; exact apart_lt (by with_reducible assumption) e9 (by (repeat' (first | with_reducible exact he9 | (with_reducible refine mem_t ?_) | (with_reducible exact mem_l he9) | (with_reducible refine mem_r ?_))))) | (intro e9 he9; exact apart_off (by with_reducible assumption) e9 (by (repeat' (first | with_reducible exact he9 | (with_reducible refine mem_t ?_) | (with_reducible exact mem_l he9) | (with_reducible refine mem_r ?_))))) | (intro q9 hq9 e9 he9; exact (by with_reducible assumption : Over _ _) q9 hq9 e9 (by (repeat' (first | with_reducible exact he9 | (with_reducible refine mem_t ?_) | (with_reducible exact mem_l he9) | (with_reducible refine mem_r ?_))))))))
    (case oR => (repeat' (first | (with_reducible assumption) | exact List.forall_mem_nil _ | (with_reducible refine List.forall_mem_cons.mpr ⟨?_, ?_⟩) | (with_reducible refine List.forall_mem_append.mpr ⟨?_, ?_⟩) | (first | exact gt_ne (by with_reducible assumption) | k_ne) | assumption)))
    (case oD => (repeat' (first | (with_reducible assumption) | exact List.forall_mem_nil _ | (with_reducible refine List.forall_mem_cons.mpr ⟨?_, ?_⟩) | (with_reducible refine List.forall_mem_append.mpr ⟨?_, ?_⟩) | (first | exact gt_ne (by with_reducible assumption) | k_ne) | assumption)))
    (case isd => with_reducible assumption)
    (case tab => (rename TabSt _ _ _ _ _ => htb; refine' TabSt.mono ?s8 htb; (case s8 => kp_flats)))
    (case up => first | (with_reducible assumption) | exact Up.refl | exact Up.trans (by with_reducible assumption) (by with_reducible assumption))
    (case th => first
      | (refine' Th.pair ?a9 ?b9 (Th.mono ?u9 ?s9 ?h9) (Th.mono ?v9 ?t9 ?i9); (case a9 => kct_strs); (case b9 => kct_strs); (case h9 => with_reducible assumption); (case i9 => with_reducible assumption); (case u9 => first | (with_reducible assumption) | exact Up.refl); (case v9 => first | exact Up.refl | (with_reducible assumption)); (case s9 => kp_flats); (case t9 => kp_flats))
      | (refine' Th.vec ?a9 ?b9 ?c9 (ThAll.mono ?u9 ?s9 ?h9) hlen; (case a9 => kct_strs); (case b9 => kct_strs); (case c9 => kct_strs); (case h9 => with_reducible assumption); (case u9 => exact Up.refl); (case s9 => kp_flats))))
end
def DatJ (prog : Program) (w : World) (f : Option Int) (R D : Addr) (ps : List Pic) (sy base : List (Addr × Obj)) (i : Nat) (ys : List Value) (nx : List (Addr × Obj)) : Prop :=
  ∃ (f' : Option Int) (rows : List Value) (nR : Nat) (es : List (Str × Value)) (oD : Obj) (tl : List (Addr × Obj)), nx = (R, listOf rows.toArray nR) :: (D, oD) :: (tl ++ base) ∧ Up f f' ∧ ThAll w.params f' (tl ++ sy) ys (ps.take i) ∧
    TabSt w.params (tl ++ sy) f' rows es ∧ oD.IsDictOf (PySem.strKind prog w) es ∧ Over base tl ∧ (∀ q ∈ tl, q.1 ≠ R) ∧ (∀ q ∈ tl, q.1 ≠ D)
theorem datJ_start {prog : Program} {w : World} {f : Option Int} {R D : Addr} {ps : List Pic} {sy base : List (Addr × Obj)} {rows : List Value} {nR : Nat} {es : List (Str × Value)} {oD : Obj}
    (ht : TabSt w.params sy f rows es) (hd : oD.IsDictOf (PySem.strKind prog w) es) : DatJ prog w f R D ps sy base 0 [] ((R, listOf rows.toArray nR) :: (D, oD) :: base) :=
  ⟨f, rows, nR, es, oD, [], rfl, Up.refl, .nil, ht, hd, Over.nil, fun _ h => (nomatch h), fun _ h => (nomatch h)⟩
theorem datJ_next {prog : Program} {w : World} {f f1 f2 : Option Int} {R D : Addr} {ps : List Pic} {sy base dl tl tl9 : List (Addr × Obj)} {i : Nat} {ys : List Value} {y : Value} {pic : Pic} {rows : List Value} {nR : Nat} {es : List (Str × Value)} {oD : Obj}
    (hp : ps[i]? = some pic) (hup : Up f f1) (hall : ThAll w.params f1 (tl ++ sy) ys (ps.take i)) (hup9 : Up f1 f2) (hth : Th w.params f2 (tl9 ++ (tl ++ sy)) y pic) (htab : TabSt w.params (tl9 ++ (tl ++ sy)) f2 rows es) (hd : oD.IsDictOf (PySem.strKind prog w) es)
    (hov : Over base tl) (hov9 : Over dl tl9) (hb : ∀ q ∈ base, q ∈ dl) (h1 : ∀ q ∈ tl, q.1 ≠ R) (h2 : ∀ q ∈ tl, q.1 ≠ D) (h3 : ∀ q ∈ tl9, q.1 ≠ R) (h4 : ∀ q ∈ tl9, q.1 ≠ D) :
    DatJ prog w f R D ps sy base (i + 1) (ys ++ [y]) ((R, listOf rows.toArray nR) :: (D, oD) :: (tl9 ++ (tl ++ base))) := by
  refine ⟨f2, rows, nR, es, oD, tl9 ++ tl, by rw [List.append_assoc], hup.trans hup9, ?_, by rw [List.append_assoc]; exact htab, hd, Over.app (hov9.sub hb) hov, fun q hq => ?_, fun q hq => ?_⟩
  · rw [List.take_add_one, hp, List.append_assoc]
    exact ThAll.append (ThAll.mono hup9 (fun q hq => List.mem_append.mpr (.inr hq)) hall) (.cons hth .nil)
  · exact (List.mem_append.mp hq).elim (h3 q) (h1 q)
  · exact (List.mem_append.mp hq).elim (h4 q) (h2 q)
theorem dat_at {news : List (Addr × Obj)} {vs : List Value} {ps : List Pic} {i : Nat} {v : Value} (h : DatAll news vs (ps.map Pic.dat)) (hv : vs[i]? = some v) : ∃ pic, ps[i]? = some pic ∧ DatIn news v pic.dat ∧ pic ∈ ps := by
  obtain ⟨hi, _⟩ := List.getElem?_eq_some_iff.mp hv
  have hl := h.length
  obtain ⟨v', e, hd⟩ := h.get (k := i) (by omega)
  rw [hv] at e
  cases e
  rw [List.getElem_map] at hd
  rw [List.length_map] at hl
  exact ⟨ps[i]'(by omega), List.getElem?_eq_getElem (by omega), hd, List.getElem_mem _⟩
section
variable {prog : Program} {w : World} {p : Program} {loose : List Str} {mean : ExcName → Option Value} {mg mb : Str → Option Value}
set_option maxHeartbeats 4000000 in
theorem datum_vec (n : Nat) (IH : DatumC prog w p loose mean mg mb n) {dp un : Nat} {gd : Option (List Code)} {cn : Str} {cs : Scope} {a : Addr} {ccd : Value} {cl : List (Str × Addr)} {outer : List Env} {A₀ : Around} {base h₀ : Heap} {L : Addr} {m : Str → Option Value} {news : List (Addr × Obj)} {s : Shared} {Q E : Value → Shared → Prop}
    {ta td R D : Addr} {nt nR : Nat} {t1 t2 : Tok} {rows : List Value} {oD : Obj} {es : List (Str × Value)} {sy : List (Addr × Obj)} {f : Option Int} {v : Value} {ps : List Pic}
    (B : Below A₀ base outer h₀) (F : Fr h₀ L s.heap m) (X : (Mine.hd.heap_39 w.params).In h₀)
    (N : News h₀ L s.heap ((R, listOf rows.toArray nR) :: (D, oD) :: news))
    (T : Top p loose mean mg mb h₀) (hk : cs.kind = .function) (hd : dp + (n + 1 + 12) < recursionLimit) (hu : un + (20 * (n + 1) + 600) < cLine)
    (hRD : @Ne Nat R D) (hoR : ∀ p ∈ news, p.1 ≠ R) (hoD : ∀ p ∈ news, p.1 ≠ D)
    (hta : (ta, instObj 128 td) ∈ news) (htd : (td, dictOf [fld w.params (Str.ofString "rows") t1 (.ref R), fld w.params (Str.ofString "by_text") t2 (.ref D)] nt) ∈ news)
    (htab : TabSt w.params sy f rows es) (hsub : ∀ q ∈ sy, q ∈ news) (hDo : oD.IsDictOf (PySem.strKind prog w) es) (hlo : (D == sysModules) = false) (hdat : DatIn news v (Pic.vec ps).dat) (hlen : ps.length ≤ 4) (hos : ∀ p ∈ ps, Ok 4 n p)
    (ret : ∀ (r : Value) (f' : Option Int) (rows' : List Value) nR' (es' : List (Str × Value)) oD' tl h' tk', Up f f' → Th w.params f' (tl ++ sy) r (.vec ps) → TabSt w.params (tl ++ sy) f' rows' es' → oD'.IsDictOf (PySem.strKind prog w) es' → Over news tl → (∀ q ∈ tl, q.1 ≠ R) → (∀ q ∈ tl, q.1 ≠ D) →
      Fr h₀ L h' m → News h₀ L h' ((R, listOf rows'.toArray nR') :: (D, oD') :: (tl ++ news)) → Q r { s with heap := h', toks := tk' }) :
    wpAny (model prog w) (ktrTop dp un gd cn cs L a ccd cl outer) (call (.ref 475) [v, .ref ta]) Q E s := by
  w_top off
  k_with_none
  (k_with "subscriptTail" => (k_here; (with_reducible show wpAny _ _ (subscriptTail _ _ (Value.ref _) (Value.int _ _)) _ _ _); k_dflt (refine' tup_itemJ ?N ?m ?lo ?hi ?j ?x ?_; (case N => k_asm); (case m => k_mem); (case lo => decide); (case hi => decide); (case j => rfl); (case x => rfl); k_whole)))
  (k_with "CompEnd" => (k_here; (rename Fr _ _ _ _ => kF); (rename News _ _ _ _ => kN); k_dflt (
  refine' compEnd_pick kF kN ?pI ?pC ?pD ?off ?hS ?_
  (case pI => (repeat' (first | exact Pick.head | (with_reducible refine' Pick.tail ?_) | (with_reducible refine' Pick.app ?_))))
  (case pC => (repeat' (first | exact Pick.head | (with_reducible refine' Pick.tail ?_) | (with_reducible refine' Pick.app ?_))))
  (case pD => (repeat' (first | exact Pick.head | (with_reducible refine' Pick.tail ?_) | (with_reducible refine' Pick.app ?_))))
  (case off => (repeat' (first | exact List.forall_mem_nil _ | (with_reducible refine List.forall_mem_cons.mpr ⟨off3_addr (by with_reducible assumption) (by (repeat' (first | (with_reducible exact mem_h) | (with_reducible refine mem_t ?_) | (with_reducible refine mem_r ?_)))), ?_⟩) | (with_reducible refine List.forall_mem_append.mpr ⟨?_, ?_⟩) | exact off3_over (by with_reducible assumption) (by (repeat' (first | (with_reducible exact mem_h) | (with_reducible refine mem_t ?_) | (with_reducible refine mem_r ?_)))) (by (repeat' (first | (with_reducible exact mem_h) | (with_reducible refine mem_t ?_) | (with_reducible refine mem_r ?_)))) (by (repeat' (first | (with_reducible exact mem_h) | (with_reducible refine mem_t ?_) | (with_reducible refine mem_r ?_)))) | (intro e9 he9; exact LCg.Off3.mem (by with_reducible assumption) e9 (by (repeat' (first | with_reducible exact he9 | (with_reducible refine mem_t ?_) | (with_reducible exact mem_l he9) | (with_reducible refine mem_r ?_))))))))
  (case hS => first | exact trivial | lcg_src))))
  (k_with "FinE" => ((unfold LCg.FinE); intro D' h' tk' F' N' o1'; have o9 := o1'; (try simp only [LCg.Off1, and_true] at o1'); (try simp only [List.nil_append, List.cons_append] at N'); (try dsimp only)))
  (k_with "call ref" => (k_here; (with_reducible show wpAny _ _ (call (Value.ref 475) _) _ _ _); k_dflt (
  refine' IH (R := R) (D := D) ?kB ?kF ?kX ?kN ?p1 ?p2 ?kT ?kk ?kd ?ku ?dl ?od ?ol ?ta9 ?td9 ?tab9 ?su9 ?is9 ?lo9 ?dat9 ?ok9 ?_
  (case kB => k_asm)
  (case kF => k_asm)
  (case kX => k_asm)
  (case kN => k_asm)
  (case p1 => (repeat' (first | exact Pick.head | (with_reducible refine' Pick.tail ?_) | (with_reducible refine' Pick.app ?_))))
  (case p2 => (repeat' (first | exact Pick.head | (with_reducible refine' Pick.tail ?_) | (with_reducible refine' Pick.app ?_))))
  (case kT => k_asm)
  (case kk => first | exact rfl | assumption)
  (case kd => exact room_ds (by with_reducible assumption))
  (case ku => exact units_ds (by with_reducible assumption))
  (case dl => assumption)
  (case od => (repeat' (first | (with_reducible assumption) | exact List.forall_mem_nil _ | (with_reducible refine List.forall_mem_cons.mpr ⟨?_, ?_⟩) | (with_reducible refine List.forall_mem_append.mpr ⟨?_, ?_⟩) | (first | exact gt_ne (by with_reducible assumption) | exact off_I (by with_reducible assumption) (by (repeat' (first | (with_reducible exact mem_h) | (with_reducible refine mem_t ?_) | (with_reducible refine mem_r ?_)))) | exact off_C (by with_reducible assumption) (by (repeat' (first | (with_reducible exact mem_h) | (with_reducible refine mem_t ?_) | (with_reducible refine mem_r ?_)))) | exact off_D (by with_reducible assumption) (by (repeat' (first | (with_reducible exact mem_h) | (with_reducible refine mem_t ?_) | (with_reducible refine mem_r ?_)))) | exact off_1 (by with_reducible assumption) (by (repeat' (first | (with_reducible exact mem_h) | (with_reducible refine mem_t ?_) | (with_reducible refine mem_r ?_)))) | k_ne) | assumption)))
  (case ol => (repeat' (first | (with_reducible assumption) | exact List.forall_mem_nil _ | (with_reducible refine List.forall_mem_cons.mpr ⟨?_, ?_⟩) | (with_reducible refine List.forall_mem_append.mpr ⟨?_, ?_⟩) | (first | exact gt_ne (by with_reducible assumption) | exact off_I (by with_reducible assumption) (by (repeat' (first | (with_reducible exact mem_h) | (with_reducible refine mem_t ?_) | (with_reducible refine mem_r ?_)))) | exact off_C (by with_reducible assumption) (by (repeat' (first | (with_reducible exact mem_h) | (with_reducible refine mem_t ?_) | (with_reducible refine mem_r ?_)))) | exact off_D (by with_reducible assumption) (by (repeat' (first | (with_reducible exact mem_h) | (with_reducible refine mem_t ?_) | (with_reducible refine mem_r ?_)))) | exact off_1 (by with_reducible assumption) (by (repeat' (first | (with_reducible exact mem_h) | (with_reducible refine mem_t ?_) | (with_reducible refine mem_r ?_)))) | k_ne) | assumption)))
  (case ta9 => k_mem)
  (case td9 => k_mem)
  (case tab9 => (rename TabSt _ _ _ _ _ => htb9; exact htb9))
  (case su9 => kp_flats)
  (case is9 => with_reducible assumption)
  (case lo9 => exact hlo)
  (case dat9 => (refine' DatIn.mono ?s9 ?h9; (case h9 => (with_reducible assumption)); (case s9 => kp_flats)))
  (case ok9 => with_reducible assumption)
  k_whole
  intro r9 f9 rows9 nR9 es9 oD9 tl9 h9 tk9 hup9 hth9 htab9 hisd9 hov9 hoR9 hoD9 F9 N9
  have hhd9 := hth9.handed
  (try k_sweep)
  (try dsimp only)
  (try k_fold))))
  (k_with "CompEnd" => (k_here; (rename Fr _ _ _ _ => kF); (rename News _ _ _ _ => kN); k_dflt (
  refine' compEnd_pick kF kN ?pI ?pC ?pD ?off ?hS ?_
  (case pI => (repeat' (first | exact Pick.head | (with_reducible refine' Pick.tail ?_) | (with_reducible refine' Pick.app ?_))))
  (case pC => (repeat' (first | exact Pick.head | (with_reducible refine' Pick.tail ?_) | (with_reducible refine' Pick.app ?_))))
  (case pD => (repeat' (first | exact Pick.head | (with_reducible refine' Pick.tail ?_) | (with_reducible refine' Pick.app ?_))))
  (case off => (repeat' (first | exact List.forall_mem_nil _ | (with_reducible refine List.forall_mem_cons.mpr ⟨off3_addr (by with_reducible assumption) (by (repeat' (first | (with_reducible exact mem_h) | (with_reducible refine mem_t ?_) | (with_reducible refine mem_r ?_)))), ?_⟩) | (with_reducible refine List.forall_mem_append.mpr ⟨?_, ?_⟩) | exact off3_over (by with_reducible assumption) (by (repeat' (first | (with_reducible exact mem_h) | (with_reducible refine mem_t ?_) | (with_reducible refine mem_r ?_)))) (by (repeat' (first | (with_reducible exact mem_h) | (with_reducible refine mem_t ?_) | (with_reducible refine mem_r ?_)))) (by (repeat' (first | (with_reducible exact mem_h) | (with_reducible refine mem_t ?_) | (with_reducible refine mem_r ?_)))) | (intro e9 he9; exact LCg.Off3.mem (by with_reducible assumption) e9 (by (repeat' (first | with_reducible exact he9 | (with_reducible refine mem_t ?_) | (with_reducible exact mem_l he9) | (with_reducible refine mem_r ?_))))))))
  (case hS => kct_strs))))
  (k_with "FinE" => ((unfold LCg.FinE); intro D' h' tk' F' N' o1'; have o9 := o1'; (try simp only [LCg.Off1, and_true] at o1'); (try simp only [List.nil_append, List.cons_append] at N'); (try dsimp only)))
  (k_with "eval ListComp" => (k_here; k_dflt (refine ListComp_T (F₀ := by k_asm) (by with_unfolding_all rfl) (by decide) (by rfl) (by decide) (by rfl) ?_)))
  (k_with "SrcT" => (k_here; k_dflt (refine' SrcT.intro ?hh ?F (Pick.news2 (q := (R, _)) (q' := (D, oD)) ?pp1 ?pp2 ?NN) ?m hsz9 ?_; (case hh => rfl); (case F => k_asm); (case NN => k_asm); (case pp1 => (repeat' (first | exact Pick.head | (with_reducible refine' Pick.tail ?_)))); (case pp2 => (repeat' (first | exact Pick.head | (with_reducible refine' Pick.tail ?_)))); (case m => kct_strs)); intro g'))
  obtain ⟨pa, pk, _, pb, pk2, vs, rfl, hpm, hpm2, hvs⟩ := in_vec hdat
  have hvl : vs.length = ps.length := by have := hvs.length; rw [List.length_map] at this; exact this
  have hsz9 : vs.length ≤ sizeLine := by rw [sizeLine_eq]; omega
  refine wpAny_call ?_
  k_dflt (first | (refine' code_defC ?k1 ?k2 ?k3 ?k4 ?k5 ?kA ?kF ?kK ?k6 ?k7 ?k8 ?k9 ?kB ?kD ?_ ?c2 ?c3 ?c4; (case kA => exact rfl); (case kF => exact rfl); (case kK => assumption); (case k1 => k_asm); (case k2 => k_asm); (case k3 => k_asm); (case k4 => k_asm); (case k5 => k_asm); (case k6 => k_is); (case k7 => k_is); (case k8 => ktr_room); (case k9 => first | exact BindsTo.of_eq rfl | exact binds_K (by k_in) rfl (by k_is) rfl rfl rfl | fail "k_enter: no rule for these arguments"); (case kB => exact rfl); (case kD => decide +kernel); (case c2 => exact rfl); (case c3 => exact rfl); (case c4 => exact rfl); k_whole; intro g' L' h' tk' cells' FG' F' N' Y' B' X' T' l1; (try k_lt l1); k_cells Y'; (try simp only [List.cons_append, List.nil_append] at N'); (try dsimp only); (try k_lift B'); (try k_fold)) | ktr_enter)
  (with_reducible rename _ ∧ _ => l1e)
  obtain ⟨hRL, hDL, hAL⟩ := l1e
  k_steps
  refine' compRest_ind vs.length (DatJ prog w f R D ps sy _) ?step9 ?fin9 vs.length 0 [] _ (Nat.zero_add _) (datJ_start htab hDo)
  case step9 =>
    rintro i ys nx hlt ⟨f1, rows1, nR1, es1, oD1, tl, rfl, hup1, hall, htab1, hDo1, hov, htR, htD⟩ v I oI C oC Dl m₂ h tk E' hv hC hx F9 N9 off9 ne9
    obtain ⟨pic, hpic, hd1, hmem⟩ := dat_at hvs hv
    have ho1 := hos pic hmem
    have hhv := hd1.handed
    k_steps
    refine' datJ_next hpic hup1 hall ?u1 ?h1 ?t1 ?d1 hov ?v1 ?b1 htR htD ?r1 ?r2
    (case u1 => with_reducible assumption)
    (case h1 => with_reducible assumption)
    (case t1 => with_reducible assumption)
    (case d1 => with_reducible assumption)
    (case v1 => with_reducible assumption)
    (case b1 => kp_flats)
    (case r1 => with_reducible assumption)
    (case r2 => with_reducible assumption)
  case fin9 =>
    rintro ys nx ⟨f1, rows1, nR1, es1, oD1, tl, rfl, hup1, hall, htab1, hDo1, hov, htR, htD⟩
    rw [List.take_of_length_le (by omega)] at hall
    k_steps
    all_goals (
    (rename Fr _ _ _ _ => kF)
    (rename News _ _ _ _ => kN)
    (iterate 24 (try ((with_reducible rename _ ∧ _ => hh9); obtain ⟨_, _⟩ := hh9)))
    refine' ret _ _ _ _ _ _ _ _ _ ?up ?th ?tab ?isd ?over ?oR ?oD kF (ret_ledger kN ?p1 ?p2 ?tl)
    (case p1 => (repeat' (first | exact Pick.head | (with_reducible refine' Pick.tail ?_) | (with_reducible refine' Pick.app ?_))))
    (case p2 => (repeat' (first | exact Pick.head | (with_reducible refine' Pick.tail ?_) | (with_reducible refine' Pick.app ?_))))
    (case tl => (repeat' (first | exact Tail.nil | (with_reducible refine' Tail.cons ?_) | (with_reducible refine' Tail.app ?_))))
    (case over => (repeat' (first | exact Over.nil | (with_reducible refine Over.cons ?_ ?_) | (with_reducible refine Over.app ?_ ?_) | exact apart_lt (by with_reducible assumption) | exact apart_lt (over_lt hAL (by omega)) | exact apart_lt (allLt_of (by with_reducible assumption)) | (refine' apart_lt (over_lt ?h91 ?h92); (case h92 => with_reducible assumption); (case h91 => first | with_reducible assumption | exact allLt_of (by with_reducible assumption))) | (intro e9 he9; refine' apart_lt (over_lt ?h91 ?h92) e9 ?m91; (case h92 => with_reducible assumption); (case h91 => with_reducible assumption); (case m91 => (repeat' (first | with_reducible exact he9 | (with_reducible refine mem_t ?_) | (with_reducible exact mem_l he9) | (with_reducible refine mem_r ?_))))) | (intro e9 he9; exact apart_lt (by with_reducible assumption) e9 (by (repeat' (first | with_reducible exact he9 | (with_reducible refine mem_t ?_) | (with_reducible exact mem_l he9) | (with_reducible refine mem_r ?_))))) | (intro e9 he9; exact apart_off (by with_reducible assumption) e9 (by (repeat' (first | with_reducible exact he9 | (with_reducible refine mem_t ?_) | (with_reducible exact mem_l he9) | (with_reducible refine mem_r ?_))))) | (intro q9 hq9 e9 he9; exact (by with_reducible assumption : Over _ _) q9 hq9 e9 (by (repeat' (first | with_reducible exact he9 | (with_reducible refine mem_t ?_) | (with_reducible exact mem_l he9) | (with_reducible refine mem_r ?_))))))))
    (case oR => (repeat' (first | (with_reducible assumption) | exact List.forall_mem_nil _ | (with_reducible refine List.forall_mem_cons.mpr ⟨?_, ?_⟩) | (with_reducible refine List.forall_mem_append.mpr ⟨?_, ?_⟩) | (first | exact gt_ne (by with_reducible assumption) | k_ne) | assumption)))
    (case oD => (repeat' (first | (with_reducible assumption) | exact List.forall_mem_nil _ | (with_reducible refine List.forall_mem_cons.mpr ⟨?_, ?_⟩) | (with_reducible refine List.forall_mem_append.mpr ⟨?_, ?_⟩) | (first | exact gt_ne (by with_reducible assumption) | k_ne) | assumption)))
    (case isd => with_reducible assumption)
    (case tab => (rename TabSt _ _ _ _ _ => htb; refine' TabSt.mono ?s8 htb; (case s8 => kp_flats)))
    (case up => first | (with_reducible assumption) | exact Up.refl | exact Up.trans (by with_reducible assumption) (by with_reducible assumption))
    (case th => first
      | (refine' Th.pair ?a9 ?b9 (Th.mono ?u9 ?s9 ?h9) (Th.mono ?v9 ?t9 ?i9); (case a9 => kct_strs); (case b9 => kct_strs); (case h9 => with_reducible assumption); (case i9 => with_reducible assumption); (case u9 => first | (with_reducible assumption) | exact Up.refl); (case v9 => first | exact Up.refl | (with_reducible assumption)); (case s9 => kp_flats); (case t9 => kp_flats))
      | (refine' Th.vec ?a9 ?b9 ?c9 (ThAll.mono ?u9 ?s9 ?h9) hlen; (case a9 => kct_strs); (case b9 => kct_strs); (case c9 => kct_strs); (case h9 => with_reducible assumption); (case u9 => exact Up.refl); (case s9 => kp_flats))))
end
section
variable {prog : Program} {w : World} {p : Program} {loose : List Str} {mean : ExcName → Option Value} {mg mb : Str → Option Value}
theorem datum_all : ∀ n : Nat, DatumC prog w p loose mean mg mb n := by
  intro n
  induction n with
  | zero =>
    intro dp un gd cn cs a ccd cl outer A₀ base h₀ L m news s Q E ta td R D nt nR t1 t2 rows oD es sy f v pic nw nw1 B F X N p1 p2 T hk hd hu hRD hoR hoD hta htd htab hsub hDo hlo hdat hok ret
    replace N := p1.news2 p2 N
    cases hok with
    | num h => exact datum_leaf 0 B F X N T hk hd hu hRD hoR hoD hta htd htab hsub hDo hdat (.inl ⟨_, _, rfl, h⟩) ret
    | truth h => exact datum_leaf 0 B F X N T hk hd hu hRD hoR hoD hta htd htab hsub hDo hdat (.inr (.inl ⟨_, rfl, h⟩)) ret
    | char h => exact datum_leaf 0 B F X N T hk hd hu hRD hoR hoD hta htd htab hsub hDo hdat (.inr (.inr (.inl ⟨_, rfl, h⟩))) ret
    | str h k => exact datum_leaf 0 B F X N T hk hd hu hRD hoR hoD hta htd htab hsub hDo hdat (.inr (.inr (.inr (.inl ⟨_, rfl, h, k⟩)))) ret
    | empty => exact datum_leaf 0 B F X N T hk hd hu hRD hoR hoD hta htd htab hsub hDo hdat (.inr (.inr (.inr (.inr (.inl rfl))))) ret
    | nothing => exact datum_leaf 0 B F X N T hk hd hu hRD hoR hoD hta htd htab hsub hDo hdat (.inr (.inr (.inr (.inr (.inr rfl))))) ret
    | sym h => exact datum_sym 0 B F X N T hk hd hu hRD hoR hoD hta htd htab hsub hDo hlo hdat h ret
  | succ n IH =>
    intro dp un gd cn cs a ccd cl outer A₀ base h₀ L m news s Q E ta td R D nt nR t1 t2 rows oD es sy f v pic nw nw1 B F X N p1 p2 T hk hd hu hRD hoR hoD hta htd htab hsub hDo hlo hdat hok ret
    replace N := p1.news2 p2 N
    cases hok with
    | num h => exact datum_leaf (n + 1) B F X N T hk hd hu hRD hoR hoD hta htd htab hsub hDo hdat (.inl ⟨_, _, rfl, h⟩) ret
    | truth h => exact datum_leaf (n + 1) B F X N T hk hd hu hRD hoR hoD hta htd htab hsub hDo hdat (.inr (.inl ⟨_, rfl, h⟩)) ret
    | char h => exact datum_leaf (n + 1) B F X N T hk hd hu hRD hoR hoD hta htd htab hsub hDo hdat (.inr (.inr (.inl ⟨_, rfl, h⟩))) ret
    | str h k => exact datum_leaf (n + 1) B F X N T hk hd hu hRD hoR hoD hta htd htab hsub hDo hdat (.inr (.inr (.inr (.inl ⟨_, rfl, h, k⟩)))) ret
    | empty => exact datum_leaf (n + 1) B F X N T hk hd hu hRD hoR hoD hta htd htab hsub hDo hdat (.inr (.inr (.inr (.inr (.inl rfl))))) ret
    | nothing => exact datum_leaf (n + 1) B F X N T hk hd hu hRD hoR hoD hta htd htab hsub hDo hdat (.inr (.inr (.inr (.inr (.inr rfl))))) ret
    | sym h => exact datum_sym (n + 1) B F X N T hk hd hu hRD hoR hoD hta htd htab hsub hDo hlo hdat h ret
    | vec hl hps => exact datum_vec n IH B F X N T hk hd hu hRD hoR hoD hta htd htab hsub hDo hlo hdat hl hps ret
    | pair h1 h2 => exact datum_pair n IH B F X N T hk hd hu hRD hoR hoD hta htd htab hsub hDo hlo hdat h1 h2 ret
end
def kw : Pic → Str
  | .num _ _ => Str.ofString "number"
  | .truth _ => Str.ofString "boolean"
  | .char _ => Str.ofString "char"
  | .sym _ => Str.ofString "symbol"
  | .str _ => Str.ofString "string"
  | .empty => Str.ofString "empty"
  | .nothing => Str.ofString "unspecified"
  | .vec _ => Str.ofString "vector"
  | .pair _ _ => Str.ofString "pair"
section
variable {prog : Program} {w : World} {p : Program} {loose : List Str} {mean : ExcName → Option Value} {mg mb : Str → Option Value}
set_option maxHeartbeats 4000000 in
theorem kind_call {dp un : Nat} {gd : Option (List Code)} {cn : Str} {cs : Scope} {a : Addr} {ccd : Value} {cl : List (Str × Addr)} {outer : List Env} {A₀ : Around} {base h₀ : Heap} {L : Addr} {m : Str → Option Value} {news sy : List (Addr × Obj)} {s : Shared} {Q E : Value → Shared → Prop}
    {f : Option Int} {v : Value} {pic : Pic}
    (B : Below A₀ base outer h₀) (F : Fr h₀ L s.heap m) (X : (Mine.hd.heap_39 w.params).In h₀)
    (N : News h₀ L s.heap news)
    (T : Top p loose mean mg mb h₀) (hk : cs.kind = .function) (hd : dp + 2 < recursionLimit) (hu : un + 100 < cLine)
    (hsub : ∀ q ∈ sy, q ∈ news) (hth : Th w.params f sy v pic)
    (ret : ∀ t h' tk', Fr h₀ L h' m → News h₀ L h' news → Q (.str (kw pic) t) { s with heap := h', toks := tk' }) :
    wpAny (model prog w) (ktrTop dp un gd cn cs L a ccd cl outer) (call (.ref 312) [v]) Q E s := by
  w_top off
  k_with_none
  cases hth with
  | int h1 h2 =>
    refine wpAny_call ?_
    k_dflt (first | (refine' code_defC ?k1 ?k2 ?k3 ?k4 ?k5 ?kA ?kF ?kK ?k6 ?k7 ?k8 ?k9 ?kB ?kD ?_ ?c2 ?c3 ?c4; (case kA => exact rfl); (case kF => exact rfl); (case kK => assumption); (case k1 => k_asm); (case k2 => k_asm); (case k3 => k_asm); (case k4 => k_asm); (case k5 => k_asm); (case k6 => k_is); (case k7 => k_is); (case k8 => ktr_room); (case k9 => first | exact BindsTo.of_eq rfl | exact binds_K (by k_in) rfl (by k_is) rfl rfl rfl | fail "k_enter: no rule for these arguments"); (case kB => exact rfl); (case kD => decide +kernel); (case c2 => exact rfl); (case c3 => exact rfl); (case c4 => exact rfl); k_whole; intro g' L' h' tk' cells' FG' F' N' Y' B' X' T' l1; (try k_lt l1); k_cells Y'; (try simp only [List.cons_append, List.nil_append] at N'); (try dsimp only); (try k_lift B'); (try k_fold)) | ktr_enter)
    k_steps
    all_goals (
      (rename Fr _ _ _ _ => kF)
      (rename News _ _ _ _ => kN)
      exact ret _ _ _ kF kN)
  | rat h1 h2 h3 h4 =>
    have h1 := hsub _ h1
    have h2 := hsub _ h2
    refine wpAny_call ?_
    k_dflt (first | (refine' code_defC ?k1 ?k2 ?k3 ?k4 ?k5 ?kA ?kF ?kK ?k6 ?k7 ?k8 ?k9 ?kB ?kD ?_ ?c2 ?c3 ?c4; (case kA => exact rfl); (case kF => exact rfl); (case kK => assumption); (case k1 => k_asm); (case k2 => k_asm); (case k3 => k_asm); (case k4 => k_asm); (case k5 => k_asm); (case k6 => k_is); (case k7 => k_is); (case k8 => ktr_room); (case k9 => first | exact BindsTo.of_eq rfl | exact binds_K (by k_in) rfl (by k_is) rfl rfl rfl | fail "k_enter: no rule for these arguments"); (case kB => exact rfl); (case kD => decide +kernel); (case c2 => exact rfl); (case c3 => exact rfl); (case c4 => exact rfl); k_whole; intro g' L' h' tk' cells' FG' F' N' Y' B' X' T' l1; (try k_lt l1); k_cells Y'; (try simp only [List.cons_append, List.nil_append] at N'); (try dsimp only); (try k_lift B'); (try k_fold)) | ktr_enter)
    k_steps
    all_goals (
      (rename Fr _ _ _ _ => kF)
      (rename News _ _ _ _ => kN)
      exact ret _ _ _ kF kN)
  | truth h1 h2 =>
    refine wpAny_call ?_
    k_dflt (first | (refine' code_defC ?k1 ?k2 ?k3 ?k4 ?k5 ?kA ?kF ?kK ?k6 ?k7 ?k8 ?k9 ?kB ?kD ?_ ?c2 ?c3 ?c4; (case kA => exact rfl); (case kF => exact rfl); (case kK => assumption); (case k1 => k_asm); (case k2 => k_asm); (case k3 => k_asm); (case k4 => k_asm); (case k5 => k_asm); (case k6 => k_is); (case k7 => k_is); (case k8 => ktr_room); (case k9 => first | exact BindsTo.of_eq rfl | exact binds_K (by k_in) rfl (by k_is) rfl rfl rfl | fail "k_enter: no rule for these arguments"); (case kB => exact rfl); (case kD => decide +kernel); (case c2 => exact rfl); (case c3 => exact rfl); (case c4 => exact rfl); k_whole; intro g' L' h' tk' cells' FG' F' N' Y' B' X' T' l1; (try k_lt l1); k_cells Y'; (try simp only [List.cons_append, List.nil_append] at N'); (try dsimp only); (try k_lift B'); (try k_fold)) | ktr_enter)
    k_steps
    all_goals (
      (rename Fr _ _ _ _ => kF)
      (rename News _ _ _ _ => kN)
      exact ret _ _ _ kF kN)
  | char h1 h2 h3 h4 =>
    have h1 := hsub _ h1
    have h2 := hsub _ h2
    refine wpAny_call ?_
    k_dflt (first | (refine' code_defC ?k1 ?k2 ?k3 ?k4 ?k5 ?kA ?kF ?kK ?k6 ?k7 ?k8 ?k9 ?kB ?kD ?_ ?c2 ?c3 ?c4; (case kA => exact rfl); (case kF => exact rfl); (case kK => assumption); (case k1 => k_asm); (case k2 => k_asm); (case k3 => k_asm); (case k4 => k_asm); (case k5 => k_asm); (case k6 => k_is); (case k7 => k_is); (case k8 => ktr_room); (case k9 => first | exact BindsTo.of_eq rfl | exact binds_K (by k_in) rfl (by k_is) rfl rfl rfl | fail "k_enter: no rule for these arguments"); (case kB => exact rfl); (case kD => decide +kernel); (case c2 => exact rfl); (case c3 => exact rfl); (case c4 => exact rfl); k_whole; intro g' L' h' tk' cells' FG' F' N' Y' B' X' T' l1; (try k_lt l1); k_cells Y'; (try simp only [List.cons_append, List.nil_append] at N'); (try dsimp only); (try k_lift B'); (try k_fold)) | ktr_enter)
    k_steps
    all_goals (
      (rename Fr _ _ _ _ => kF)
      (rename News _ _ _ _ => kN)
      exact ret _ _ _ kF kN)
  | sym h1 h2 h3 h4 h5 =>
    have h3 := hsub _ h3
    have h4 := hsub _ h4
    refine wpAny_call ?_
    k_dflt (first | (refine' code_defC ?k1 ?k2 ?k3 ?k4 ?k5 ?kA ?kF ?kK ?k6 ?k7 ?k8 ?k9 ?kB ?kD ?_ ?c2 ?c3 ?c4; (case kA => exact rfl); (case kF => exact rfl); (case kK => assumption); (case k1 => k_asm); (case k2 => k_asm); (case k3 => k_asm); (case k4 => k_asm); (case k5 => k_asm); (case k6 => k_is); (case k7 => k_is); (case k8 => ktr_room); (case k9 => first | exact BindsTo.of_eq rfl | exact binds_K (by k_in) rfl (by k_is) rfl rfl rfl | fail "k_enter: no rule for these arguments"); (case kB => exact rfl); (case kD => decide +kernel); (case c2 => exact rfl); (case c3 => exact rfl); (case c4 => exact rfl); k_whole; intro g' L' h' tk' cells' FG' F' N' Y' B' X' T' l1; (try k_lt l1); k_cells Y'; (try simp only [List.cons_append, List.nil_append] at N'); (try dsimp only); (try k_lift B'); (try k_fold)) | ktr_enter)
    k_steps
    all_goals (
      (rename Fr _ _ _ _ => kF)
      (rename News _ _ _ _ => kN)
      exact ret _ _ _ kF kN)
  | str h1 h2 h3 h4 h5 h6 =>
    have h1 := hsub _ h1
    have h2 := hsub _ h2
    refine wpAny_call ?_
    k_dflt (first | (refine' code_defC ?k1 ?k2 ?k3 ?k4 ?k5 ?kA ?kF ?kK ?k6 ?k7 ?k8 ?k9 ?kB ?kD ?_ ?c2 ?c3 ?c4; (case kA => exact rfl); (case kF => exact rfl); (case kK => assumption); (case k1 => k_asm); (case k2 => k_asm); (case k3 => k_asm); (case k4 => k_asm); (case k5 => k_asm); (case k6 => k_is); (case k7 => k_is); (case k8 => ktr_room); (case k9 => first | exact BindsTo.of_eq rfl | exact binds_K (by k_in) rfl (by k_is) rfl rfl rfl | fail "k_enter: no rule for these arguments"); (case kB => exact rfl); (case kD => decide +kernel); (case c2 => exact rfl); (case c3 => exact rfl); (case c4 => exact rfl); k_whole; intro g' L' h' tk' cells' FG' F' N' Y' B' X' T' l1; (try k_lt l1); k_cells Y'; (try simp only [List.cons_append, List.nil_append] at N'); (try dsimp only); (try k_lift B'); (try k_fold)) | ktr_enter)
    k_steps
    all_goals (
      (rename Fr _ _ _ _ => kF)
      (rename News _ _ _ _ => kN)
      exact ret _ _ _ kF kN)
  | empty =>
    refine wpAny_call ?_
    k_dflt (first | (refine' code_defC ?k1 ?k2 ?k3 ?k4 ?k5 ?kA ?kF ?kK ?k6 ?k7 ?k8 ?k9 ?kB ?kD ?_ ?c2 ?c3 ?c4; (case kA => exact rfl); (case kF => exact rfl); (case kK => assumption); (case k1 => k_asm); (case k2 => k_asm); (case k3 => k_asm); (case k4 => k_asm); (case k5 => k_asm); (case k6 => k_is); (case k7 => k_is); (case k8 => ktr_room); (case k9 => first | exact BindsTo.of_eq rfl | exact binds_K (by k_in) rfl (by k_is) rfl rfl rfl | fail "k_enter: no rule for these arguments"); (case kB => exact rfl); (case kD => decide +kernel); (case c2 => exact rfl); (case c3 => exact rfl); (case c4 => exact rfl); k_whole; intro g' L' h' tk' cells' FG' F' N' Y' B' X' T' l1; (try k_lt l1); k_cells Y'; (try simp only [List.cons_append, List.nil_append] at N'); (try dsimp only); (try k_lift B'); (try k_fold)) | ktr_enter)
    k_steps
    all_goals (
      (rename Fr _ _ _ _ => kF)
      (rename News _ _ _ _ => kN)
      exact ret _ _ _ kF kN)
  | nothing =>
    refine wpAny_call ?_
    k_dflt (first | (refine' code_defC ?k1 ?k2 ?k3 ?k4 ?k5 ?kA ?kF ?kK ?k6 ?k7 ?k8 ?k9 ?kB ?kD ?_ ?c2 ?c3 ?c4; (case kA => exact rfl); (case kF => exact rfl); (case kK => assumption); (case k1 => k_asm); (case k2 => k_asm); (case k3 => k_asm); (case k4 => k_asm); (case k5 => k_asm); (case k6 => k_is); (case k7 => k_is); (case k8 => ktr_room); (case k9 => first | exact BindsTo.of_eq rfl | exact binds_K (by k_in) rfl (by k_is) rfl rfl rfl | fail "k_enter: no rule for these arguments"); (case kB => exact rfl); (case kD => decide +kernel); (case c2 => exact rfl); (case c3 => exact rfl); (case c4 => exact rfl); k_whole; intro g' L' h' tk' cells' FG' F' N' Y' B' X' T' l1; (try k_lt l1); k_cells Y'; (try simp only [List.cons_append, List.nil_append] at N'); (try dsimp only); (try k_lift B'); (try k_fold)) | ktr_enter)
    k_steps
    all_goals (
      (rename Fr _ _ _ _ => kF)
      (rename News _ _ _ _ => kN)
      exact ret _ _ _ kF kN)
  | vec h1 h2 h3 h4 h5 =>
    have h1 := hsub _ h1
    have h2 := hsub _ h2
    refine wpAny_call ?_
    k_dflt (first | (refine' code_defC ?k1 ?k2 ?k3 ?k4 ?k5 ?kA ?kF ?kK ?k6 ?k7 ?k8 ?k9 ?kB ?kD ?_ ?c2 ?c3 ?c4; (case kA => exact rfl); (case kF => exact rfl); (case kK => assumption); (case k1 => k_asm); (case k2 => k_asm); (case k3 => k_asm); (case k4 => k_asm); (case k5 => k_asm); (case k6 => k_is); (case k7 => k_is); (case k8 => ktr_room); (case k9 => first | exact BindsTo.of_eq rfl | exact binds_K (by k_in) rfl (by k_is) rfl rfl rfl | fail "k_enter: no rule for these arguments"); (case kB => exact rfl); (case kD => decide +kernel); (case c2 => exact rfl); (case c3 => exact rfl); (case c4 => exact rfl); k_whole; intro g' L' h' tk' cells' FG' F' N' Y' B' X' T' l1; (try k_lt l1); k_cells Y'; (try simp only [List.cons_append, List.nil_append] at N'); (try dsimp only); (try k_lift B'); (try k_fold)) | ktr_enter)
    k_steps
    all_goals (
      (rename Fr _ _ _ _ => kF)
      (rename News _ _ _ _ => kN)
      exact ret _ _ _ kF kN)
  | pair h1 h2 h3 h4 =>
    have h1 := hsub _ h1
    have h2 := hsub _ h2
    refine wpAny_call ?_
    k_dflt (first | (refine' code_defC ?k1 ?k2 ?k3 ?k4 ?k5 ?kA ?kF ?kK ?k6 ?k7 ?k8 ?k9 ?kB ?kD ?_ ?c2 ?c3 ?c4; (case kA => exact rfl); (case kF => exact rfl); (case kK => assumption); (case k1 => k_asm); (case k2 => k_asm); (case k3 => k_asm); (case k4 => k_asm); (case k5 => k_asm); (case k6 => k_is); (case k7 => k_is); (case k8 => ktr_room); (case k9 => first | exact BindsTo.of_eq rfl | exact binds_K (by k_in) rfl (by k_is) rfl rfl rfl | fail "k_enter: no rule for these arguments"); (case kB => exact rfl); (case kD => decide +kernel); (case c2 => exact rfl); (case c3 => exact rfl); (case c4 => exact rfl); k_whole; intro g' L' h' tk' cells' FG' F' N' Y' B' X' T' l1; (try k_lt l1); k_cells Y'; (try simp only [List.cons_append, List.nil_append] at N'); (try dsimp only); (try k_lift B'); (try k_fold)) | ktr_enter)
    k_steps
    all_goals (
      (rename Fr _ _ _ _ => kF)
      (rename News _ _ _ _ => kN)
      exact ret _ _ _ kF kN)
end
open Classical in
theorem end_num {x y s t b c : Int} (h : x = y ↔ (s = t ∧ b = c)) : (x == y) = decide (Pic.num s b = Pic.num t c) := by
  rw [Bool.eq_iff_iff, beq_iff_eq, decide_eq_true_iff, Pic.num.injEq]; exact h
theorem cast_q {Q : Value → Shared → Prop} {st : Shared} {b c : Bool} (e : b = c) (h : Q (.bool c) st) : Q (.bool b) st := e ▸ h
theorem room_1 {dp R : Nat} (h : dp + 4 < R) : dp + 1 + 1 < R := by omega
theorem room_2 {dp R : Nat} (h : dp + 4 < R) : dp + 1 + 1 + 1 < R := by omega
theorem units_1 {un R : Nat} (h : un + 150 < R) : un + 3 + 100 < R := by omega
theorem units_2 {un R : Nat} (h : un + 150 < R) : un + 3 + 3 + 100 < R := by omega
section
variable {prog : Program} {w : World} {p : Program} {loose : List Str} {mean : ExcName → Option Value} {mg mb : Str → Option Value}
set_option maxHeartbeats 4000000 in
theorem inex_call {dp un : Nat} {gd : Option (List Code)} {cn : Str} {cs : Scope} {a : Addr} {ccd : Value} {cl : List (Str × Addr)} {outer : List Env} {A₀ : Around} {base h₀ : Heap} {L : Addr} {m : Str → Option Value} {news sy : List (Addr × Obj)} {s : Shared} {Q E : Value → Shared → Prop}
    {f : Option Int} {v : Value} {t b : Int}
    (B : Below A₀ base outer h₀) (F : Fr h₀ L s.heap m) (X : (Mine.hd.heap_39 w.params).In h₀)
    (N : News h₀ L s.heap news)
    (T : Top p loose mean mg mb h₀) (hk : cs.kind = .function) (hd : dp + 1 < recursionLimit) (hu : un + 100 < cLine) (hsub : ∀ q ∈ sy, q ∈ news) (hv : Th w.params f sy v (.num t b))
    (ret : ∀ (_ : Nat) h' tk', Fr h₀ L h' m → News h₀ L h' news → Q (.bool false) { s with heap := h', toks := tk' }) :
    wpAny (model prog w) (ktrTop dp un gd cn cs L a ccd cl outer) (call (.ref 410) [v]) Q E s := by
  w_top off
  k_with_none
  cases hv with
  | int a1 a2 =>
    refine wpAny_call ?_
    k_dflt ktr_enter
    k_steps
    all_goals (
      (rename Fr _ _ _ _ => kF)
      (rename News _ _ _ _ => kN)
      exact ret 0 _ _ kF kN)
  | rat a1 a2 a3 a4 =>
    have a1 := hsub _ a1
    have a2 := hsub _ a2
    refine wpAny_call ?_
    k_dflt ktr_enter
    k_steps
    all_goals (
      (rename Fr _ _ _ _ => kF)
      (rename News _ _ _ _ => kN)
      exact ret 0 _ _ kF kN)
set_option maxHeartbeats 4000000 in
theorem top_call {dp un : Nat} {gd : Option (List Code)} {cn : Str} {cs : Scope} {a : Addr} {ccd : Value} {cl : List (Str × Addr)} {outer : List Env} {A₀ : Around} {base h₀ : Heap} {L : Addr} {m : Str → Option Value} {news sy : List (Addr × Obj)} {s : Shared} {Q E : Value → Shared → Prop}
    {f : Option Int} {v : Value} {t b : Int}
    (B : Below A₀ base outer h₀) (F : Fr h₀ L s.heap m) (X : (Mine.hd.heap_39 w.params).In h₀)
    (N : News h₀ L s.heap news)
    (T : Top p loose mean mg mb h₀) (hk : cs.kind = .function) (hd : dp + 1 < recursionLimit) (hu : un + 100 < cLine) (hsub : ∀ q ∈ sy, q ∈ news) (hv : Th w.params f sy v (.num t b))
    (ret : ∀ u h' tk', Fr h₀ L h' m → News h₀ L h' news → Q (.int t u) { s with heap := h', toks := tk' }) :
    wpAny (model prog w) (ktrTop dp un gd cn cs L a ccd cl outer) (call (.ref 368) [v]) Q E s := by
  w_top off
  k_with_none
  cases hv with
  | int a1 a2 =>
    refine wpAny_call ?_
    k_dflt ktr_enter
    k_steps
    all_goals (
      (rename Fr _ _ _ _ => kF)
      (rename News _ _ _ _ => kN)
      exact ret _ _ _ kF kN)
  | rat a1 a2 a3 a4 =>
    have a1 := hsub _ a1
    have a2 := hsub _ a2
    refine wpAny_call ?_
    k_dflt ktr_enter
    k_steps
    all_goals (
      (rename Fr _ _ _ _ => kF)
      (rename News _ _ _ _ => kN)
      exact ret _ _ _ kF kN)
set_option maxHeartbeats 4000000 in
theorem bot_call {dp un : Nat} {gd : Option (List Code)} {cn : Str} {cs : Scope} {a : Addr} {ccd : Value} {cl : List (Str × Addr)} {outer : List Env} {A₀ : Around} {base h₀ : Heap} {L : Addr} {m : Str → Option Value} {news sy : List (Addr × Obj)} {s : Shared} {Q E : Value → Shared → Prop}
    {f : Option Int} {v : Value} {t b : Int}
    (B : Below A₀ base outer h₀) (F : Fr h₀ L s.heap m) (X : (Mine.hd.heap_39 w.params).In h₀)
    (N : News h₀ L s.heap news)
    (T : Top p loose mean mg mb h₀) (hk : cs.kind = .function) (hd : dp + 1 < recursionLimit) (hu : un + 100 < cLine) (hsub : ∀ q ∈ sy, q ∈ news) (hv : Th w.params f sy v (.num t b))
    (ret : ∀ u h' tk', Fr h₀ L h' m → News h₀ L h' news → Q (.int b u) { s with heap := h', toks := tk' }) :
    wpAny (model prog w) (ktrTop dp un gd cn cs L a ccd cl outer) (call (.ref 375) [v]) Q E s := by
  w_top off
  k_with_none
  cases hv with
  | int a1 a2 =>
    refine wpAny_call ?_
    k_dflt ktr_enter
    k_steps
    all_goals (
      (rename Fr _ _ _ _ => kF)
      (rename News _ _ _ _ => kN)
      exact ret _ _ _ kF kN)
  | rat a1 a2 a3 a4 =>
    have a1 := hsub _ a1
    have a2 := hsub _ a2
    refine wpAny_call ?_
    k_dflt ktr_enter
    k_steps
    all_goals (
      (rename Fr _ _ _ _ => kF)
      (rename News _ _ _ _ => kN)
      exact ret _ _ _ kF kN)
open Classical in
set_option maxHeartbeats 4000000 in
theorem num_call {dp un : Nat} {gd : Option (List Code)} {cn : Str} {cs : Scope} {a : Addr} {ccd : Value} {cl : List (Str × Addr)} {outer : List Env} {A₀ : Around} {base h₀ : Heap} {L : Addr} {m : Str → Option Value} {news sy : List (Addr × Obj)} {s : Shared} {Q E : Value → Shared → Prop}
    {f : Option Int} {l r : Value} {t b t2 b2 : Int}
    (B : Below A₀ base outer h₀) (F : Fr h₀ L s.heap m) (X : (Mine.hd.heap_39 w.params).In h₀)
    (N : News h₀ L s.heap news)
    (T : Top p loose mean mg mb h₀) (hk : cs.kind = .function) (hd : dp + 4 < recursionLimit) (hu : un + 150 < cLine) (hsub : ∀ q ∈ sy, q ∈ news) (hl : Th w.params f sy l (.num t b)) (hr : Th w.params f sy r (.num t2 b2))
    (ret : ∀ h' tk', Fr h₀ L h' m → News h₀ L h' news → Q (.bool (decide (Pic.num t b = Pic.num t2 b2))) { s with heap := h', toks := tk' }) :
    wpAny (model prog w) (ktrTop dp un gd cn cs L a ccd cl outer) (call (.ref 417) [l, r]) Q E s := by
  w_top off
  k_with_none
  (k_with "call ref" => (
  k_here
  (with_reducible show wpAny _ _ (call (Value.ref 410) _) _ _ _)
  k_dflt (
  refine' inex_call ?kB ?kF ?kX ?kN ?kT ?kk ?kd ?ku hsub ?hv ?_
  (case kB => k_asm)
  (case kF => k_asm)
  (case kX => k_asm)
  (case kN => k_asm)
  (case kT => k_asm)
  (case kk => first | exact rfl | assumption)
  (case kd => first | exact room_1 (by with_reducible assumption) | exact room_2 (by with_reducible assumption) | ktr_room)
  (case ku => first | exact units_1 (by with_reducible assumption) | exact units_2 (by with_reducible assumption) | ktr_units)
  (case hv => first | exact hl | exact hr)
  k_whole
  intro u9 h9 tk9 F9 N9
  (try k_sweep)
  (try dsimp only)
  (try k_fold))))
  (k_with "call ref" => (
  k_here
  (with_reducible show wpAny _ _ (call (Value.ref 368) _) _ _ _)
  k_dflt (
  refine' top_call ?kB ?kF ?kX ?kN ?kT ?kk ?kd ?ku hsub ?hv ?_
  (case kB => k_asm)
  (case kF => k_asm)
  (case kX => k_asm)
  (case kN => k_asm)
  (case kT => k_asm)
  (case kk => first | exact rfl | assumption)
  (case kd => first | exact room_1 (by with_reducible assumption) | exact room_2 (by with_reducible assumption) | ktr_room)
  (case ku => first | exact units_1 (by with_reducible assumption) | exact units_2 (by with_reducible assumption) | ktr_units)
  (case hv => first | exact hl | exact hr)
  k_whole
  intro u9 h9 tk9 F9 N9
  (try k_sweep)
  (try dsimp only)
  (try k_fold))))
  (k_with "call ref" => (
  k_here
  (with_reducible show wpAny _ _ (call (Value.ref 375) _) _ _ _)
  k_dflt (
  refine' bot_call ?kB ?kF ?kX ?kN ?kT ?kk ?kd ?ku hsub ?hv ?_
  (case kB => k_asm)
  (case kF => k_asm)
  (case kX => k_asm)
  (case kN => k_asm)
  (case kT => k_asm)
  (case kk => first | exact rfl | assumption)
  (case kd => first | exact room_1 (by with_reducible assumption) | exact room_2 (by with_reducible assumption) | ktr_room)
  (case ku => first | exact units_1 (by with_reducible assumption) | exact units_2 (by with_reducible assumption) | ktr_units)
  (case hv => first | exact hl | exact hr)
  k_whole
  intro u9 h9 tk9 F9 N9
  (try k_sweep)
  (try dsimp only)
  (try k_fold))))

  have hh1 := hl.handed
  have hh2 := hr.handed
  refine wpAny_call ?_
  k_dflt ktr_enter
  k_steps
  all_goals (
      (rename Fr _ _ _ _ => kF)
      (rename News _ _ _ _ => kN)
      exact cast_q (end_num (by omega)) (ret _ _ kF kN))
end
open Classical in
theorem end_char {x y i j : Int} (h : x = y ↔ i = j) : (x == y) = decide (Pic.char i = Pic.char j) := by
  rw [Bool.eq_iff_iff, beq_iff_eq, decide_eq_true_iff, Pic.char.injEq]; exact h
open Classical in
theorem end_sym {x y i j : Int} (h : x = y ↔ i = j) : (x == y) = decide (Pic.sym i = Pic.sym j) := by
  rw [Bool.eq_iff_iff, beq_iff_eq, decide_eq_true_iff, Pic.sym.injEq]; exact h
open Classical in
theorem end_truth {b c : Bool} {i j : Int} (hi : BitOk i) (hj : BitOk j) (hb : b = true ↔ i = 1) (hc : c = true ↔ j = 1) : (b == c) = decide (Pic.truth i = Pic.truth j) := by
  rw [Bool.eq_iff_iff, beq_iff_eq, decide_eq_true_iff, Pic.truth.injEq]
  unfold BitOk at hi hj
  constructor
  · rintro rfl
    cases b
    · have h1 : ¬ i = 1 := fun e => by have := hb.mpr e; cases this
      have h2 : ¬ j = 1 := fun e => by have := hc.mpr e; cases this
      omega
    · have h1 := hb.mp rfl
      have h2 := hc.mp rfl
      omega
  · rintro rfl
    rw [Bool.eq_iff_iff, hb, hc]
theorem sym_nums {i j k l m : Int} (hi : BitOk i) (hj : BitOk j) (hf : BitOk m) (hk : k = if i = m then 0 else 1) (hl : l = if j = m then 0 else 1) : k = l ↔ i = j := by
  unfold BitOk at *
  subst hk hl
  split <;> split <;> omega
theorem room_na {dp R : Nat} (h : dp + 5 < R) : dp + 1 + 4 < R := by omega
theorem units_na {un R : Nat} (h : un + 200 < R) : un + 3 + 150 < R := by omega
section
variable {prog : Program} {w : World} {p : Program} {loose : List Str} {mean : ExcName → Option Value} {mg mb : Str → Option Value}
open Classical in
set_option maxHeartbeats 4000000 in
theorem atoms_num {dp un : Nat} {gd : Option (List Code)} {cn : Str} {cs : Scope} {a : Addr} {ccd : Value} {cl : List (Str × Addr)} {outer : List Env} {A₀ : Around} {base h₀ : Heap} {L : Addr} {m : Str → Option Value} {news sy : List (Addr × Obj)} {s : Shared} {Q E : Value → Shared → Prop}
    {f : Option Int} {l r : Value} {tt b t2 b2 : Int} {t : Tok}
    (B : Below A₀ base outer h₀) (F : Fr h₀ L s.heap m) (X : (Mine.hd.heap_39 w.params).In h₀)
    (N : News h₀ L s.heap news)
    (T : Top p loose mean mg mb h₀) (hk : cs.kind = .function) (hd : dp + 5 < recursionLimit) (hu : un + 200 < cLine)
    (hsub : ∀ q ∈ sy, q ∈ news) (hl : Th w.params f sy l (.num tt b)) (hr : Th w.params f sy r (.num t2 b2))
    (ret : ∀ h' tk', Fr h₀ L h' m → News h₀ L h' news → Q (.bool (decide (Pic.num tt b = Pic.num t2 b2))) { s with heap := h', toks := tk' }) :
    wpAny (model prog w) (ktrTop dp un gd cn cs L a ccd cl outer) (call (.ref 432) [l, r, .str (Str.ofString "number") t]) Q E s := by
  w_top off
  k_with_none
  (k_with "call ref" => (k_here; (with_reducible show wpAny _ _ (call (Value.ref 417) _) _ _ _); k_dflt (
  refine' num_call ?kB ?kF ?kX ?kN ?kT ?kk ?kd ?ku hsub hl hr ?_
  (case kB => k_asm)
  (case kF => k_asm)
  (case kX => k_asm)
  (case kN => k_asm)
  (case kT => k_asm)
  (case kk => first | exact rfl | assumption)
  (case kd => exact room_na (by with_reducible assumption))
  (case ku => exact units_na (by with_reducible assumption))
  k_whole
  intro h9 tk9 F9 N9
  (try k_sweep)
  (try dsimp only)
  (try k_fold))))
  have hh1 := hl.handed
  have hh2 := hr.handed
  refine wpAny_call ?_
  k_dflt (first | (refine' code_defC ?k1 ?k2 ?k3 ?k4 ?k5 ?kA ?kF ?kK ?k6 ?k7 ?k8 ?k9 ?kB ?kD ?_ ?c2 ?c3 ?c4; (case kA => exact rfl); (case kF => exact rfl); (case kK => assumption); (case k1 => k_asm); (case k2 => k_asm); (case k3 => k_asm); (case k4 => k_asm); (case k5 => k_asm); (case k6 => k_is); (case k7 => k_is); (case k8 => ktr_room); (case k9 => first | exact BindsTo.of_eq rfl | exact binds_K (by k_in) rfl (by k_is) rfl rfl rfl | fail "k_enter: no rule for these arguments"); (case kB => exact rfl); (case kD => decide +kernel); (case c2 => exact rfl); (case c3 => exact rfl); (case c4 => exact rfl); k_whole; intro g' L' h' tk' cells' FG' F' N' Y' B' X' T' l1; (try k_lt l1); k_cells Y'; (try simp only [List.cons_append, List.nil_append] at N'); (try dsimp only); (try k_lift B'); (try k_fold)) | ktr_enter)
  k_steps
  all_goals (
      (rename Fr _ _ _ _ => kF)
      (rename News _ _ _ _ => kN)
      exact ret _ _ kF kN)
open Classical in
set_option maxHeartbeats 4000000 in
theorem atoms_call {dp un : Nat} {gd : Option (List Code)} {cn : Str} {cs : Scope} {a : Addr} {ccd : Value} {cl : List (Str × Addr)} {outer : List Env} {A₀ : Around} {base h₀ : Heap} {L : Addr} {m : Str → Option Value} {news sy : List (Addr × Obj)} {s : Shared} {Q E : Value → Shared → Prop}
    {f : Option Int} {l r : Value} {pp qq : Pic} {t : Tok}
    (B : Below A₀ base outer h₀) (F : Fr h₀ L s.heap m) (X : (Mine.hd.heap_39 w.params).In h₀)
    (N : News h₀ L s.heap news)
    (T : Top p loose mean mg mb h₀) (hk : cs.kind = .function) (hd : dp + 5 < recursionLimit) (hu : un + 200 < cLine)
    (hfok : ∀ j, f = some j → BitOk j) (hsub : ∀ q ∈ sy, q ∈ news) (hl : Th w.params f sy l pp) (hr : Th w.params f sy r qq) (hkw : kw pp = kw qq) (n1 : kw pp ≠ Str.ofString "pair") (n2 : kw pp ≠ Str.ofString "vector") (n3 : kw pp ≠ Str.ofString "string")
    (ret : ∀ h' tk', Fr h₀ L h' m → News h₀ L h' news → Q (.bool (decide (pp = qq))) { s with heap := h', toks := tk' }) :
    wpAny (model prog w) (ktrTop dp un gd cn cs L a ccd cl outer) (call (.ref 432) [l, r, .str (kw pp) t]) Q E s := by
  w_top off
  k_with_none
  (k_with "call ref" => (k_here; (with_reducible show wpAny _ _ (call (Value.ref 417) _) _ _ _); k_dflt (
  refine' num_call ?kB ?kF ?kX ?kN ?kT ?kk ?kd ?ku hsub hl hr ?_
  (case kB => k_asm)
  (case kF => k_asm)
  (case kX => k_asm)
  (case kN => k_asm)
  (case kT => k_asm)
  (case kk => first | exact rfl | assumption)
  (case kd => exact room_na (by with_reducible assumption))
  (case ku => exact units_na (by with_reducible assumption))
  k_whole
  intro h9 tk9 F9 N9
  (try k_sweep)
  (try dsimp only)
  (try k_fold))))
  cases hl
  all_goals first | exact absurd rfl n1 | exact absurd rfl n2 | exact absurd rfl n3 | skip
  all_goals cases hr
  all_goals first | (simp only [kw] at hkw; exact absurd hkw (of_decide_eq_false (by decide +kernel))) | skip
  · rename_i t1 u1 a1 a2 t2 u2 b1 b2
    exact atoms_num (f := f) B F X N T hk hd hu hsub (.int a1 a2) (.int b1 b2) ret
  · rename_i t1 u1 a1 a2 x2 d2 n2 c2 t21 t22 u21 u22 b1 b2 b3 b4
    exact atoms_num (f := f) B F X N T hk hd hu hsub (.int a1 a2) (.rat b1 b2 b3 b4) ret
  · rename_i x1 d1 n1 c1 t11 t12 u11 u12 a1 a2 a3 a4 t2 u2 b1 b2
    exact atoms_num (f := f) B F X N T hk hd hu hsub (.rat a1 a2 a3 a4) (.int b1 b2) ret
  · rename_i x1 d1 n1 c1 t11 t12 u11 u12 a1 a2 a3 a4 x2 d2 n2 c2 t21 t22 u21 u22 b1 b2 b3 b4
    exact atoms_num (f := f) B F X N T hk hd hu hsub (.rat a1 a2 a3 a4) (.rat b1 b2 b3 b4) ret
  · rename_i i1 b1 a1 a2 i2 b2 c1 c2
    simp only [kw]
    refine wpAny_call ?_
    k_dflt (first | (refine' code_defC ?k1 ?k2 ?k3 ?k4 ?k5 ?kA ?kF ?kK ?k6 ?k7 ?k8 ?k9 ?kB ?kD ?_ ?c2 ?c3 ?c4; (case kA => exact rfl); (case kF => exact rfl); (case kK => assumption); (case k1 => k_asm); (case k2 => k_asm); (case k3 => k_asm); (case k4 => k_asm); (case k5 => k_asm); (case k6 => k_is); (case k7 => k_is); (case k8 => ktr_room); (case k9 => first | exact BindsTo.of_eq rfl | exact binds_K (by k_in) rfl (by k_is) rfl rfl rfl | fail "k_enter: no rule for these arguments"); (case kB => exact rfl); (case kD => decide +kernel); (case c2 => exact rfl); (case c3 => exact rfl); (case c4 => exact rfl); k_whole; intro g' L' h' tk' cells' FG' F' N' Y' B' X' T' l1; (try k_lt l1); k_cells Y'; (try simp only [List.cons_append, List.nil_append] at N'); (try dsimp only); (try k_lift B'); (try k_fold)) | ktr_enter)
    k_steps
    all_goals (
      (rename Fr _ _ _ _ => kF)
      (rename News _ _ _ _ => kN)
      exact cast_q (end_truth a1 c1 a2 c2) (ret _ _ kF kN))
  · rename_i x1 d1 n1 i1 c1 t1 u1 a1 a2 a3 a4 x2 d2 n2 i2 c2 t2 u2 b1 b2 b3 b4
    have a1 := hsub _ a1
    have a2 := hsub _ a2
    have b1 := hsub _ b1
    have b2 := hsub _ b2
    simp only [kw]
    refine wpAny_call ?_
    k_dflt (first | (refine' code_defC ?k1 ?k2 ?k3 ?k4 ?k5 ?kA ?kF ?kK ?k6 ?k7 ?k8 ?k9 ?kB ?kD ?_ ?c2 ?c3 ?c4; (case kA => exact rfl); (case kF => exact rfl); (case kK => assumption); (case k1 => k_asm); (case k2 => k_asm); (case k3 => k_asm); (case k4 => k_asm); (case k5 => k_asm); (case k6 => k_is); (case k7 => k_is); (case k8 => ktr_room); (case k9 => first | exact BindsTo.of_eq rfl | exact binds_K (by k_in) rfl (by k_is) rfl rfl rfl | fail "k_enter: no rule for these arguments"); (case kB => exact rfl); (case kD => decide +kernel); (case c2 => exact rfl); (case c3 => exact rfl); (case c4 => exact rfl); k_whole; intro g' L' h' tk' cells' FG' F' N' Y' B' X' T' l1; (try k_lt l1); k_cells Y'; (try simp only [List.cons_append, List.nil_append] at N'); (try dsimp only); (try k_lift B'); (try k_fold)) | ktr_enter)
    k_steps
    all_goals (
      (rename Fr _ _ _ _ => kF)
      (rename News _ _ _ _ => kN)
      exact cast_q (end_char (by omega)) (ret _ _ kF kN))
  · rename_i x1 d1 n1 i1 j1 k1 t11 t12 u11 u12 a1 a2 a3 a4 a5 x2 d2 n2 i2 j2 k2 t21 t22 u21 u22 b1 b2 b3 b4 b5
    have a3 := hsub _ a3
    have a4 := hsub _ a4
    have b3 := hsub _ b3
    have b4 := hsub _ b4
    obtain rfl : j1 = j2 := by rw [a1] at b1; exact Option.some.inj b1
    simp only [kw]
    refine wpAny_call ?_
    k_dflt (first | (refine' code_defC ?k1 ?k2 ?k3 ?k4 ?k5 ?kA ?kF ?kK ?k6 ?k7 ?k8 ?k9 ?kB ?kD ?_ ?c2 ?c3 ?c4; (case kA => exact rfl); (case kF => exact rfl); (case kK => assumption); (case k1 => k_asm); (case k2 => k_asm); (case k3 => k_asm); (case k4 => k_asm); (case k5 => k_asm); (case k6 => k_is); (case k7 => k_is); (case k8 => ktr_room); (case k9 => first | exact BindsTo.of_eq rfl | exact binds_K (by k_in) rfl (by k_is) rfl rfl rfl | fail "k_enter: no rule for these arguments"); (case kB => exact rfl); (case kD => decide +kernel); (case c2 => exact rfl); (case c3 => exact rfl); (case c4 => exact rfl); k_whole; intro g' L' h' tk' cells' FG' F' N' Y' B' X' T' l1; (try k_lt l1); k_cells Y'; (try simp only [List.cons_append, List.nil_append] at N'); (try dsimp only); (try k_lift B'); (try k_fold)) | ktr_enter)
    k_steps
    all_goals (
      (rename Fr _ _ _ _ => kF)
      (rename News _ _ _ _ => kN)
      exact cast_q (end_sym (sym_nums a2 b2 (hfok _ a1) a5 b5)) (ret _ _ kF kN))
  · simp only [kw]
    refine wpAny_call ?_
    k_dflt (first | (refine' code_defC ?k1 ?k2 ?k3 ?k4 ?k5 ?kA ?kF ?kK ?k6 ?k7 ?k8 ?k9 ?kB ?kD ?_ ?c2 ?c3 ?c4; (case kA => exact rfl); (case kF => exact rfl); (case kK => assumption); (case k1 => k_asm); (case k2 => k_asm); (case k3 => k_asm); (case k4 => k_asm); (case k5 => k_asm); (case k6 => k_is); (case k7 => k_is); (case k8 => ktr_room); (case k9 => first | exact BindsTo.of_eq rfl | exact binds_K (by k_in) rfl (by k_is) rfl rfl rfl | fail "k_enter: no rule for these arguments"); (case kB => exact rfl); (case kD => decide +kernel); (case c2 => exact rfl); (case c3 => exact rfl); (case c4 => exact rfl); k_whole; intro g' L' h' tk' cells' FG' F' N' Y' B' X' T' l1; (try k_lt l1); k_cells Y'; (try simp only [List.cons_append, List.nil_append] at N'); (try dsimp only); (try k_lift B'); (try k_fold)) | ktr_enter)
    k_steps
    all_goals (
      (rename Fr _ _ _ _ => kF)
      (rename News _ _ _ _ => kN)
      exact cast_q (decide_eq_true rfl).symm (ret _ _ kF kN))
  · simp only [kw]
    refine wpAny_call ?_
    k_dflt (first | (refine' code_defC ?k1 ?k2 ?k3 ?k4 ?k5 ?kA ?kF ?kK ?k6 ?k7 ?k8 ?k9 ?kB ?kD ?_ ?c2 ?c3 ?c4; (case kA => exact rfl); (case kF => exact rfl); (case kK => assumption); (case k1 => k_asm); (case k2 => k_asm); (case k3 => k_asm); (case k4 => k_asm); (case k5 => k_asm); (case k6 => k_is); (case k7 => k_is); (case k8 => ktr_room); (case k9 => first | exact BindsTo.of_eq rfl | exact binds_K (by k_in) rfl (by k_is) rfl rfl rfl | fail "k_enter: no rule for these arguments"); (case kB => exact rfl); (case kD => decide +kernel); (case c2 => exact rfl); (case c3 => exact rfl); (case c4 => exact rfl); k_whole; intro g' L' h' tk' cells' FG' F' N' Y' B' X' T' l1; (try k_lt l1); k_cells Y'; (try simp only [List.cons_append, List.nil_append] at N'); (try dsimp only); (try k_lift B'); (try k_fold)) | ktr_enter)
    k_steps
    all_goals (
      (rename Fr _ _ _ _ => kF)
      (rename News _ _ _ _ => kN)
      exact cast_q (decide_eq_true rfl).symm (ret _ _ kF kN))
end
mutual
def Pic.sz : Pic → Nat
  | .vec ps => Pic.szs ps + 1
  | .pair p q => p.sz + q.sz + 1
  | _ => 1
def Pic.szs : List Pic → Nat
  | [] => 0
  | p :: ps => p.sz + Pic.szs ps
end
theorem sz_pos (p : Pic) : 1 ≤ p.sz := by cases p <;> simp only [Pic.sz] <;> omega
def tot : List (Pic × Pic) → Nat
  | [] => 0
  | x :: r => x.1.sz + tot r
theorem tot_app : ∀ (a b : List (Pic × Pic)), tot (a ++ b) = tot a + tot b
  | [], _ => by simp [tot]
  | x :: r, b => by simp only [List.cons_append, tot, tot_app r b]; omega
theorem tot_len : ∀ a : List (Pic × Pic), a.length ≤ tot a
  | [] => Nat.le_refl _
  | x :: r => by have := tot_len r; have := sz_pos x.1; simp only [List.length_cons, tot]; omega
inductive Stk (P : Params) (f : Option Int) (sy tl : List (Addr × Obj)) : List Value → List (Pic × Pic) → Prop
  | nil : Stk P f sy tl [] []
  | cons {a : Addr} {l r : Value} {k : Nat} {p q : Pic} {vs : List Value} {prs : List (Pic × Pic)} : (a, tupOf [l, r] k) ∈ tl → Th P f sy l p → Th P f sy r q → Stk P f sy tl vs prs → Stk P f sy tl (.ref a :: vs) ((p, q) :: prs)
theorem Stk.mono {P : Params} {f : Option Int} {sy tl tl' : List (Addr × Obj)} {vs : List Value} {prs : List (Pic × Pic)} (hs : ∀ x ∈ tl, x ∈ tl') (h : Stk P f sy tl vs prs) : Stk P f sy tl' vs prs := by
  induction h with
  | nil => exact .nil
  | cons h1 h2 h3 _ ih => exact .cons (hs _ h1) h2 h3 ih
theorem Stk.app {P : Params} {f : Option Int} {sy tl : List (Addr × Obj)} {vs ws : List Value} {prs qrs : List (Pic × Pic)} (h : Stk P f sy tl vs prs) (k : Stk P f sy tl ws qrs) : Stk P f sy tl (vs ++ ws) (prs ++ qrs) := by
  induction h with
  | nil => exact k
  | cons h1 h2 h3 _ ih => exact .cons h1 h2 h3 ih
theorem Stk.len {P : Params} {f : Option Int} {sy tl : List (Addr × Obj)} {vs : List Value} {prs : List (Pic × Pic)} (h : Stk P f sy tl vs prs) : vs.length = prs.length := by
  induction h with
  | nil => rfl
  | cons _ _ _ _ ih => rw [List.length_cons, List.length_cons, ih]
theorem Stk.split {P : Params} {f : Option Int} {sy tl : List (Addr × Obj)} {pr : Pic × Pic} : ∀ {prs : List (Pic × Pic)} {vs : List Value}, Stk P f sy tl vs (prs ++ [pr]) → ∃ vs' a l r k, vs = vs' ++ [.ref a] ∧ (a, tupOf [l, r] k) ∈ tl ∧ Th P f sy l pr.1 ∧ Th P f sy r pr.2 ∧ Stk P f sy tl vs' prs
  | [], _, h => by
    cases h with
    | cons h1 h2 h3 h4 => cases h4; exact ⟨[], _, _, _, _, rfl, h1, h2, h3, .nil⟩
  | x :: prs, _, h => by
    cases h with
    | cons h1 h2 h3 h4 =>
      obtain ⟨vs', a, l, r, k, rfl, g1, g2, g3, g4⟩ := Stk.split h4
      exact ⟨_ :: vs', a, l, r, k, rfl, g1, g2, g3, .cons h1 h2 h3 g4⟩
def SameJ (P : Params) (f : Option Int) (sy news : List (Addr × Obj)) (W : Addr) (p q : Pic) (n₀ n : Nat) (m : Str → Option Value) (nx : List (Addr × Obj)) : Prop :=
  ∃ (m' : Str → Option Value) (its : List Value) (nW : Nat) (tl : List (Addr × Obj)) (prs : List (Pic × Pic)), m = (fun y => if y = Str.ofString "waiting" then some (.ref W) else m' y) ∧ nx = (W, listOf its.toArray nW) :: (tl ++ news) ∧ (∀ x ∈ tl, x.1 ≠ W) ∧
    Stk P f sy (tl ++ news) its prs ∧ tot prs = n ∧ n ≤ n₀ ∧ (p = q ↔ ∀ x ∈ prs, x.1 = x.2)
inductive Kinds (P : Params) (f : Option Int) (sy news : List (Addr × Obj)) : Value → Value → Pic → Pic → Prop
  | pair {x d y e : Addr} {n n' : Nat} {t1 t2 t3 t4 : Tok} {v1 v2 w1 w2 : Value} {p1 p2 q1 q2 : Pic} : (x, instObj 149 d) ∈ news → (d, dictOf [fld P (Str.ofString "car") t1 v1, fld P (Str.ofString "cdr") t2 v2] n) ∈ news → Th P f sy v1 p1 → Th P f sy v2 p2 →
      (y, instObj 149 e) ∈ news → (e, dictOf [fld P (Str.ofString "car") t3 w1, fld P (Str.ofString "cdr") t4 w2] n') ∈ news → Th P f sy w1 q1 → Th P f sy w2 q2 → Kinds P f sy news (.ref x) (.ref y) (.pair p1 p2) (.pair q1 q2)
  | vec0 {x d c y e g : Addr} {n n2 n' n2' : Nat} {t t' : Tok} : (x, instObj 212 d) ∈ news → (d, dictOf [fld P (Str.ofString "things") t (.ref c)] n) ∈ news → (c, listOf [].toArray n2) ∈ news →
      (y, instObj 212 e) ∈ news → (e, dictOf [fld P (Str.ofString "things") t' (.ref g)] n') ∈ news → (g, listOf [].toArray n2') ∈ news → Kinds P f sy news (.ref x) (.ref y) (.vec []) (.vec [])
  | vec1 {x d c y e g : Addr} {n n2 n' n2' : Nat} {t t' : Tok} {v1 w1 : Value} {p1 q1 : Pic} : (x, instObj 212 d) ∈ news → (d, dictOf [fld P (Str.ofString "things") t (.ref c)] n) ∈ news → (c, listOf [v1].toArray n2) ∈ news →
      (y, instObj 212 e) ∈ news → (e, dictOf [fld P (Str.ofString "things") t' (.ref g)] n') ∈ news → (g, listOf [w1].toArray n2') ∈ news → Th P f sy v1 p1 → Th P f sy w1 q1 → Kinds P f sy news (.ref x) (.ref y) (.vec [p1]) (.vec [q1])
  | vec2 {x d c y e g : Addr} {n n2 n' n2' : Nat} {t t' : Tok} {v1 w1 v2 w2 : Value} {p1 q1 p2 q2 : Pic} : (x, instObj 212 d) ∈ news → (d, dictOf [fld P (Str.ofString "things") t (.ref c)] n) ∈ news → (c, listOf [v1, v2].toArray n2) ∈ news →
      (y, instObj 212 e) ∈ news → (e, dictOf [fld P (Str.ofString "things") t' (.ref g)] n') ∈ news → (g, listOf [w1, w2].toArray n2') ∈ news → Th P f sy v1 p1 → Th P f sy w1 q1 → Th P f sy v2 p2 → Th P f sy w2 q2 → Kinds P f sy news (.ref x) (.ref y) (.vec [p1, p2]) (.vec [q1, q2])
  | vec3 {x d c y e g : Addr} {n n2 n' n2' : Nat} {t t' : Tok} {v1 w1 v2 w2 v3 w3 : Value} {p1 q1 p2 q2 p3 q3 : Pic} : (x, instObj 212 d) ∈ news → (d, dictOf [fld P (Str.ofString "things") t (.ref c)] n) ∈ news → (c, listOf [v1, v2, v3].toArray n2) ∈ news →
      (y, instObj 212 e) ∈ news → (e, dictOf [fld P (Str.ofString "things") t' (.ref g)] n') ∈ news → (g, listOf [w1, w2, w3].toArray n2') ∈ news → Th P f sy v1 p1 → Th P f sy w1 q1 → Th P f sy v2 p2 → Th P f sy w2 q2 → Th P f sy v3 p3 → Th P f sy w3 q3 → Kinds P f sy news (.ref x) (.ref y) (.vec [p1, p2, p3]) (.vec [q1, q2, q3])
  | vec4 {x d c y e g : Addr} {n n2 n' n2' : Nat} {t t' : Tok} {v1 w1 v2 w2 v3 w3 v4 w4 : Value} {p1 q1 p2 q2 p3 q3 p4 q4 : Pic} : (x, instObj 212 d) ∈ news → (d, dictOf [fld P (Str.ofString "things") t (.ref c)] n) ∈ news → (c, listOf [v1, v2, v3, v4].toArray n2) ∈ news →
      (y, instObj 212 e) ∈ news → (e, dictOf [fld P (Str.ofString "things") t' (.ref g)] n') ∈ news → (g, listOf [w1, w2, w3, w4].toArray n2') ∈ news → Th P f sy v1 p1 → Th P f sy w1 q1 → Th P f sy v2 p2 → Th P f sy w2 q2 → Th P f sy v3 p3 → Th P f sy w3 q3 → Th P f sy v4 p4 → Th P f sy w4 q4 → Kinds P f sy news (.ref x) (.ref y) (.vec [p1, p2, p3, p4]) (.vec [q1, q2, q3, q4])
  | vecN {x d c y e g : Addr} {n n2 n' n2' : Nat} {t t' : Tok} {vs ws : List Value} {ps qs : List Pic} : (x, instObj 212 d) ∈ news → (d, dictOf [fld P (Str.ofString "things") t (.ref c)] n) ∈ news → (c, listOf vs.toArray n2) ∈ news →
      (y, instObj 212 e) ∈ news → (e, dictOf [fld P (Str.ofString "things") t' (.ref g)] n') ∈ news → (g, listOf ws.toArray n2') ∈ news → vs.length ≠ ws.length → vs.length ≤ 4 → ws.length ≤ 4 → ps ≠ qs → Kinds P f sy news (.ref x) (.ref y) (.vec ps) (.vec qs)
  | strE {x d c y e g : Addr} {n n2 n' n2' : Nat} {t t' : Tok} {j : Int} {vs ws : List Value} : (x, instObj 191 d) ∈ news → (d, dictOf [fld P (Str.ofString "codes") t (.ref c)] n) ∈ news → (c, listOf vs.toArray n2) ∈ news → IntsAre vs (codesOf (abS j)) →
      (y, instObj 191 e) ∈ news → (e, dictOf [fld P (Str.ofString "codes") t' (.ref g)] n') ∈ news → (g, listOf ws.toArray n2') ∈ news → IntsAre ws (codesOf (abS j)) → Kinds P f sy news (.ref x) (.ref y) (.str j) (.str j)
  | strN {x d c y e g : Addr} {n n2 n' n2' : Nat} {t t' : Tok} {j k : Int} {vs ws : List Value} : (x, instObj 191 d) ∈ news → (d, dictOf [fld P (Str.ofString "codes") t (.ref c)] n) ∈ news → (c, listOf vs.toArray n2) ∈ news → IntsAre vs (codesOf (abS j)) →
      (y, instObj 191 e) ∈ news → (e, dictOf [fld P (Str.ofString "codes") t' (.ref g)] n') ∈ news → (g, listOf ws.toArray n2') ∈ news → IntsAre ws (codesOf (abS k)) → codesOf (abS j) ≠ codesOf (abS k) → j ≠ k → Kinds P f sy news (.ref x) (.ref y) (.str j) (.str k)
  | atomE {l r : Value} {p : Pic} : kw p ≠ Str.ofString "pair" → kw p ≠ Str.ofString "vector" → kw p ≠ Str.ofString "string" → Th P f sy l p → Th P f sy r p → Kinds P f sy news l r p p
  | atomN {l r : Value} {p q : Pic} : kw p ≠ Str.ofString "pair" → kw p ≠ Str.ofString "vector" → kw p ≠ Str.ofString "string" → p ≠ q → Th P f sy l p → Th P f sy r q → kw p = kw q → Kinds P f sy news l r p q
theorem codes_ne {j k : Int} (hj0 : 0 ≤ j) (hj : j < 3) (hk0 : 0 ≤ k) (hk : k < 3) (h : j ≠ k) : codesOf (abS j) ≠ codesOf (abS k) := by
  rcases split3 hj0 hj with rfl | rfl | rfl <;> rcases split3 hk0 hk with rfl | rfl | rfl <;> first | exact absurd rfl h | exact of_decide_eq_false (by decide +kernel)
theorem kw_ne (a b : String) (h : decide (Str.ofString a = Str.ofString b) = false) : Str.ofString a ≠ Str.ofString b := of_decide_eq_false h
theorem kinds_of {P : Params} {f : Option Int} {sy news : List (Addr × Obj)} {l r : Value} {p q : Pic} (hs : ∀ x ∈ sy, x ∈ news) (hl : Th P f sy l p) (hr : Th P f sy r q) (hk : kw p = kw q) : Kinds P f sy news l r p q := by
  have atom : kw p ≠ Str.ofString "pair" → kw p ≠ Str.ofString "vector" → kw p ≠ Str.ofString "string" → Kinds P f sy news l r p q := fun n1 n2 n3 => by
    by_cases e : p = q
    · subst e; exact .atomE n1 n2 n3 hl hr
    · exact .atomN n1 n2 n3 e hl hr hk
  cases hl with
  | pair a b c d => cases hr with
    | pair a' b' c' d' => exact .pair (hs _ a) (hs _ b) c d (hs _ a') (hs _ b') c' d'
    | _ => simp only [kw] at hk; exact absurd hk (kw_ne _ _ (by decide +kernel))
  | @vec x0 d0 c0 n0 n20 t0 vs ps a b c d e => cases hr with
    | @vec x1 d1 c1 n1 n21 t1 ws qs a' b' c' d' e' =>
      by_cases hl : vs.length = ws.length
      · cases d with
        | nil => cases d' with
          | nil => exact .vec0 (hs _ a) (hs _ b) (hs _ c) (hs _ a') (hs _ b') (hs _ c')
          | cons _ _ => cases hl
        | cons u1 d => cases d' with
          | nil => cases hl
          | cons u1' d' => cases d with
            | nil => cases d' with
              | nil => exact .vec1 (hs _ a) (hs _ b) (hs _ c) (hs _ a') (hs _ b') (hs _ c') u1 u1'
              | cons _ _ => cases hl
            | cons u2 d => cases d' with
              | nil => cases hl
              | cons u2' d' => cases d with
                | nil => cases d' with
                  | nil => exact .vec2 (hs _ a) (hs _ b) (hs _ c) (hs _ a') (hs _ b') (hs _ c') u1 u1' u2 u2'
                  | cons _ _ => cases hl
                | cons u3 d => cases d' with
                  | nil => cases hl
                  | cons u3' d' => cases d with
                    | nil => cases d' with
                      | nil => exact .vec3 (hs _ a) (hs _ b) (hs _ c) (hs _ a') (hs _ b') (hs _ c') u1 u1' u2 u2' u3 u3'
                      | cons _ _ => cases hl
                    | cons u4 d => cases d' with
                      | nil => cases hl
                      | cons u4' d' => cases d with
                        | nil => cases d' with
                          | nil => exact .vec4 (hs _ a) (hs _ b) (hs _ c) (hs _ a') (hs _ b') (hs _ c') u1 u1' u2 u2' u3 u3' u4 u4'
                          | cons _ _ => cases hl
                        | cons u5 d => exact absurd e (by simp)
      · have h1 := ThAll.length d
        have h2 := ThAll.length d'
        exact .vecN (hs _ a) (hs _ b) (hs _ c) (hs _ a') (hs _ b') (hs _ c') hl (by omega) (by omega) fun q => hl (by rw [h1, h2, q])
    | _ => simp only [kw] at hk; exact absurd hk (kw_ne _ _ (by decide +kernel))
  | @str x0 d0 c0 n0 n20 j t0 vs a b c d e g => cases hr with
    | @str x1 d1 c1 n1 n21 k t1 ws a' b' c' d' e' g' =>
      by_cases hjk : j = k
      · subst hjk; exact .strE (hs _ a) (hs _ b) (hs _ c) d (hs _ a') (hs _ b') (hs _ c') d'
      · exact .strN (hs _ a) (hs _ b) (hs _ c) d (hs _ a') (hs _ b') (hs _ c') d' (codes_ne e g e' g' hjk) hjk
    | _ => simp only [kw] at hk; exact absurd hk (kw_ne _ _ (by decide +kernel))
  | _ => exact atom (kw_ne _ _ (by decide +kernel)) (kw_ne _ _ (by decide +kernel)) (kw_ne _ _ (by decide +kernel))
theorem same_next {P : Params} {f : Option Int} {sy news nw nw1 TL : List (Addr × Obj)} {W : Addr} {p q p9 q9 : Pic} {ini new : List (Pic × Pic)} {n₀ n : Nat} {h₀ h' : Heap} {L : Addr} {s : Shared} {tk : Nat} {m₂ : Str → Option Value} {its : List Value} {nW : Nat}
    (F : Fr h₀ L h' m₂) (N : News h₀ L h' nw) (p1 : Pick (W, listOf its.toArray nW) nw nw1) (tl : Tail news nw1 TL) (hm : m₂ (Str.ofString "waiting") = some (.ref W)) (htl : ∀ x ∈ TL, x.1 ≠ W) (hstk : Stk P f sy nw1 its (ini ++ new)) (htot : tot (ini.concat (p9, q9)) = n) (hlt : tot new < p9.sz) (hle : n ≤ n₀)
    (hres : p = q ↔ ∀ x ∈ ini.concat (p9, q9), x.1 = x.2) (hnew : p9 = q9 ↔ ∀ x ∈ new, x.1 = x.2) : ∃ h'' tk'' m₃ news₂ n', ({ s with heap := h', toks := tk } : Shared) = { s with heap := h'', toks := tk'' } ∧ Fr h₀ L h'' m₃ ∧ News h₀ L h'' news₂ ∧ n' < n ∧ SameJ P f sy news W p q n₀ n' m₃ news₂ := by
  have e := tl.eq
  simp only [List.concat_eq_append, tot_app, tot] at htot
  refine ⟨h', tk, m₂, _, tot (ini ++ new), rfl, F, p1.news N, by rw [tot_app]; omega, m₂, its, nW, TL, ini ++ new, ?_, by rw [e], htl, e ▸ hstk, rfl, by rw [tot_app]; omega, ?_⟩
  · funext y
    by_cases hy : y = Str.ofString "waiting"
    · rw [if_pos hy, hy]; exact hm
    · rw [if_neg hy]
  · rw [hres, List.concat_eq_append]
    constructor
    · intro h x hx
      rcases List.mem_append.mp hx with hx | hx
      · exact h x (List.mem_append.mpr (.inl hx))
      · exact hnew.mp (h (p9, q9) (List.mem_append.mpr (.inr (.head _)))) x hx
    · intro h x hx
      rcases List.mem_append.mp hx with hx | hx
      · exact h x (List.mem_append.mpr (.inl hx))
      · rw [List.mem_singleton.mp hx]
        exact hnew.mpr fun y hy => h y (List.mem_append.mpr (.inr hy))
theorem stk_room8 {P : Params} {f : Option Int} {sy tl : List (Addr × Obj)} {vs : List Value} {ini : List (Pic × Pic)} {p q : Pic} {n n₀ : Nat} (h : Stk P f sy tl vs ini) (ht : tot (ini.concat (p, q)) = n) (hl : n ≤ n₀) (hs : n₀ ≤ 5000) : vs.length + 8 ≤ sizeLine := by
  have h1 := h.len
  have h2 := tot_len ini
  simp only [List.concat_eq_append, tot_app, tot] at ht
  rw [sizeLine_eq]
  omega
theorem stk_same {P : Params} {f : Option Int} {sy tl : List (Addr × Obj)} {vs : List Value} {ini : List (Pic × Pic)} (h : Stk P f sy tl vs ini) : Stk P f sy tl vs (ini ++ []) := by rw [List.append_nil]; exact h
theorem unr_pick {h₀ : Heap} {L I : Addr} {it : Obj} {rest : (Str → Option Value) → List (Addr × Obj) → Prop} {s₁ : Shared} {h' : Heap} {tk : Nat} {m' : Str → Option Value} {all news' : List (Addr × Obj)} (F : Fr h₀ L h' m') (N : News h₀ L h' all) (pI : Pick (I, it) all news')
    (off : ∀ p ∈ news', p.1 ≠ I) (r : rest m' news') : UnrEnd h₀ L s₁ I it rest { s₁ with heap := h', toks := tk } := UnrEnd.intro F (pI.news N) news' (fun _ hp => hp) off r
theorem ws2_ret {h₀ : Heap} {L : Addr} {s s₃ : Shared} {J : Nat → (Str → Option Value) → List (Addr × Obj) → Prop} {Q : Flow → Shared → Prop} {n : Nat} {v : Value} (h : Q (.ret v) s₃) : WhileStep2 h₀ L s J Q n (.ret v) s₃ := h
theorem room_ka {dp R : Nat} (h : dp + 8 < R) : dp + 1 + 5 < R := by omega
theorem units_ka {un R : Nat} (h : un + 300 < R) : un + 3 + 200 < R := by omega
theorem units_kc {un R : Nat} (h : un + 300 < R) : un + 3 + 64 < R := by omega
theorem res_false {p q p9 q9 : Pic} {ini : List (Pic × Pic)} (hres : p = q ↔ ∀ x ∈ ini.concat (p9, q9), x.1 = x.2) (h : p9 ≠ q9) : ¬ (p = q) := fun e => h (hres.mp e (p9, q9) (by rw [List.concat_eq_append]; exact List.mem_append.mpr (.inr (.head _))))
theorem room_k {dp R : Nat} (h : dp + 8 < R) : dp + 1 + 2 < R := by omega
theorem units_k {un R : Nat} (h : un + 300 < R) : un + 3 + 100 < R := by omega
theorem stk_room {P : Params} {f : Option Int} {sy tl : List (Addr × Obj)} {vs : List Value} {ini : List (Pic × Pic)} {p q : Pic} {a : Addr} {n n₀ : Nat} (h : Stk P f sy tl vs ini) (ht : tot (ini.concat (p, q)) = n) (hl : n ≤ n₀) (hs : n₀ ≤ 5000) : (vs ++ [Value.ref a]).length ≤ sizeLine := by
  have h1 := h.len
  have h2 := tot_len ini
  simp only [List.concat_eq_append, tot_app, tot] at ht
  rw [List.length_append, sizeLine_eq, List.length_singleton]
  have := sz_pos p
  omega
section
variable {Q : Value → Shared → Prop} {prog : Program} {w : World} {A : Around} {E : Value → Shared → Prop} {s : Shared}
theorem ne_kw_same {x y : Str} {t u : Tok} (e : x = y) (h : Q (.bool false) s) : wpAny (model prog w) A (compareOp .NotEq (.str x t) (.str y u)) Q E s :=
  PyProof.Rows.ne_str (by rw [show (x != y) = false by rw [e]; simp]; exact h)
theorem ne_kw_diff {x y : Str} {t u : Tok} (e : x ≠ y) (h : Q (.bool true) s) : wpAny (model prog w) A (compareOp .NotEq (.str x t) (.str y u)) Q E s :=
  PyProof.Rows.ne_str (by rw [show (x != y) = true from bne_iff_ne.mpr e]; exact h)
theorem len_pos {h₀ : Heap} {L W : Addr} {news : List (Addr × Obj)} {vs : List Value} {x : Value} {n : Nat} (N : News h₀ L s.heap news) (hm : (W, listOf (vs ++ [x]).toArray n) ∈ news) (hz : (vs ++ [x]).length ≤ sizeLine)
    (h : ∀ k : Int, 0 < k → Q (.int k (s.toks + 1)) { s with toks := s.toks + 1 + 1 }) : wpAny (model prog w) A (call (.builtin "len") [.ref W]) Q E s := by
  refine PyProof.Rows.len_list (News.isList N hm) ?_ (h _ ?_)
  · rw [List.size_toArray]; rw [sizeLine_eq] at hz; omega
  · rw [List.size_toArray, List.length_append, List.length_singleton]; omega
theorem len_any {h₀ : Heap} {L c : Addr} {news : List (Addr × Obj)} {vs : List Value} {n : Nat} (N : News h₀ L s.heap news) (hm : (c, listOf vs.toArray n) ∈ news) (hz : vs.length ≤ 4)
    (h : Q (.int (vs.length : Int) (s.toks + 1)) { s with toks := s.toks + 1 + 1 }) : wpAny (model prog w) A (call (.builtin "len") [.ref c]) Q E s := by
  refine PyProof.Rows.len_list (News.isList N hm) ?_ ?_
  · rw [List.size_toArray]; omega
  · rw [List.size_toArray]; exact h
theorem ne_int_true {a b : Int} {t u : Tok} (e : a ≠ b) (h : Q (.bool true) s) : wpAny (model prog w) A (compareOp .NotEq (.int a t) (.int b u)) Q E s :=
  PyProof.Rows.ne_int (by rw [show (a != b) = true from bne_iff_ne.mpr e]; exact h)
theorem ne_codes_same {h₀ : Heap} {L c g : Addr} {news : List (Addr × Obj)} {vs ws : List Value} {n n' : Nat} {ns : List Int} (N : News h₀ L s.heap news) (hc : (c, listOf vs.toArray n) ∈ news) (hi : IntsAre vs ns) (hg : (g, listOf ws.toArray n') ∈ news) (hi' : IntsAre ws ns) (hu : A.units + 64 < cLine)
    (h : Q (.bool false) s) : wpAny (model prog w) A (compareOp .NotEq (.ref c) (.ref g)) Q E s :=
  ne_intsK (News.isList N hc) hi (News.isList N hg) hi' hu (by rw [decide_eq_true rfl]; exact h)
theorem ne_codes_diff {h₀ : Heap} {L c g : Addr} {news : List (Addr × Obj)} {vs ws : List Value} {n n' : Nat} {ns ms : List Int} (N : News h₀ L s.heap news) (hc : (c, listOf vs.toArray n) ∈ news) (hi : IntsAre vs ns) (hg : (g, listOf ws.toArray n') ∈ news) (hi' : IntsAre ws ms) (hu : A.units + 64 < cLine) (e : ns ≠ ms)
    (h : Q (.bool true) s) : wpAny (model prog w) A (compareOp .NotEq (.ref c) (.ref g)) Q E s :=
  ne_intsK (News.isList N hc) hi (News.isList N hg) hi' hu (by rw [decide_eq_false e]; exact h)
theorem eq_kw_b {x y : Str} {t u : Tok} (b : Bool) (e : decide (x = y) = b) (h : Q (.bool b) s) : wpAny (model prog w) A (compareOp .Eq (.str x t) (.str y u)) Q E s :=
  PyProof.Rows.eq_str (by
    have : (x == y) = b := by rw [← e]; exact Bool.eq_iff_iff.mpr (by rw [beq_iff_eq, decide_eq_true_iff])
    rw [this]; exact h)
theorem list_itemJ {h₀ : Heap} {L ax : Addr} {news : List (Addr × Obj)} {value slice : Expr} {n : Nat} {k : Int} {u : Tok} {x : Value} {l : List Value} (N : News h₀ L s.heap news) (hm : (ax, listOf l.toArray n) ∈ news) (h0 : 0 ≤ k) (hhi : k < 2 ^ 63) (hx : l[k.toNat]? = some x) (h : Q x s)
    (hs : subscripted slice false (.ref ax) (.int k u) = operate [.ref ax, .int k u] (getItem (.ref ax) (.int k u)) := by with_unfolding_all rfl) :
    wpAny (model prog w) A (subscriptTail value slice (.ref ax) (.int k u)) Q E s :=
  have hL := PySem.IsL.isList (n := n) (N _ hm).1
  tail_any hL.typeIs slot_list_getitem.lookup (wpAny_getItem_list hL h0 hhi (by simpa using hx) h) hs
end
section
variable {prog : Program} {w : World} {p : Program} {loose : List Str} {mean : ExcName → Option Value} {mg mb : Str → Option Value}
open Classical in
set_option maxHeartbeats 4000000 in
theorem same_call {dp un : Nat} {gd : Option (List Code)} {cn : Str} {cs : Scope} {a : Addr} {ccd : Value} {cl : List (Str × Addr)} {outer : List Env} {A₀ : Around} {base h₀ : Heap} {L : Addr} {m : Str → Option Value} {news sy : List (Addr × Obj)} {s : Shared} {Q E : Value → Shared → Prop}
    {f : Option Int} {l r : Value} {pp qq : Pic}
    (B : Below A₀ base outer h₀) (F : Fr h₀ L s.heap m) (X : (Mine.hd.heap_39 w.params).In h₀)
    (N : News h₀ L s.heap news)
    (T : Top p loose mean mg mb h₀) (hk : cs.kind = .function) (hd : dp + 8 < recursionLimit) (hu : un + 300 < cLine)
    (hfok : ∀ j, f = some j → BitOk j) (hsub : ∀ q ∈ sy, q ∈ news) (hl : Th w.params f sy l pp) (hr : Th w.params f sy r qq) (hsz : pp.sz ≤ 5000)
    (ret : ∀ h' tk', Fr h₀ L h' m → News h₀ L h' news → Q (.bool (decide (pp = qq))) { s with heap := h', toks := tk' }) :
    wpAny (model prog w) (ktrTop dp un gd cn cs L a ccd cl outer) (call (.ref 439) [l, r]) Q E s := by
  w_top off
  k_with_none
  (k_with "exec While Compare" => (
  k_here
  (rename Fr _ _ _ _ => lF')
  (rename News _ _ _ _ => lN')
  refine While_inv2 (SameJ w.params f sy news _ pp qq pp.sz) lF' lN' ⟨_, _, _, [_], [(pp, qq)], rfl, rfl, (by first | exact List.forall_mem_cons.mpr ⟨by k_ne, List.forall_mem_nil _⟩), .cons (by kct_strs) hl hr .nil, rfl, Nat.le_refl _, ⟨fun e x hx => by rw [List.mem_singleton.mp hx]; exact e, fun h => h (pp, qq) (.head _)⟩⟩ ?_ (by with_unfolding_all passes_own)
  clear lF' lN'
  rintro n9 m₁ nx h₁ tk₁ F₁ N₁ ⟨m', its, nW, tl, prs, rfl, rfl, htl, hstk, htot, hle, hres⟩
  rcases List.eq_nil_or_concat prs with rfl | ⟨ini, pr9, rfl⟩
  cases hstk
  rotate_left
  obtain ⟨p9, q9⟩ := pr9
  obtain ⟨vs9, a9, l9, r9, k9, rfl, hm9, hl9, hr9, hstk9⟩ := Stk.split (List.concat_eq_append ▸ hstk)
  have hhl9 := hl9.handed
  have hhr9 := hr9.handed
  have hlen9 := stk_room (a := a9) hstk9 htot hle hsz
  have hroom9 := stk_room8 hstk9 htot hle hsz
  by_cases hkw : kw p9 = kw q9
  have hkinds9 := kinds_of hsub hl9 hr9 hkw))
  (k_with "call builtin:len" => (k_here; (with_reducible show wpAny _ _ (call (Value.builtin "len") [Value.ref _]) _ _ _); k_dflt (first | (refine' len_pos ?N ?m hlen9 ?_; (case N => k_asm); (case m => exact mem_h); intro k8 hk8) | (refine' len_any ?N ?m ?z ?_; (case N => k_asm); (case m => k_mem); (case z => with_reducible assumption)))))
  (k_with "compareOp NotEq int int" => (k_here; k_dflt (refine ne_int_true (fun e => by omega) ?_)))
  (k_with "compareOp NotEq ref ref" => (k_here; (with_reducible show wpAny _ _ (compareOp CmpOp.NotEq (Value.ref _) (Value.ref _)) _ _ _); k_dflt (first
  | (refine' ne_codes_same ?N ?c ?i ?g ?j ?u ?_; (case N => k_asm); (case c => k_mem); (case g => k_mem); (case i => with_reducible assumption); (case j => with_reducible assumption); (case u => exact units_kc (by with_reducible assumption)))
  | (refine' ne_codes_diff ?N ?c ?i ?g ?j ?u ?e ?_; (case N => k_asm); (case c => k_mem); (case g => k_mem); (case i => with_reducible assumption); (case j => with_reducible assumption); (case u => exact units_kc (by with_reducible assumption)); (case e => with_reducible assumption)))))
  (k_with "assign Tuple" => (k_here; (with_reducible show wpAny _ _ (assign (Expr.Tuple _ _ _) _ (Value.ref _)) _ _ _); k_dflt (refine' unpackN_ ?k1 ?k2 (News.isTup ?k3 (mem_t hm9)) ?k4 ?k5 ?k6 ?_; (case k1 => k_asm); (case k2 => k_asm); (case k3 => k_asm); (case k4 => exact rfl); (case k5 => exact rfl); (case k6 => exact rfl); k_whole); intro h' F' N'; (try k_sweep)))
  (k_with "call builtin:list.pop" => (k_here; k_dflt (refine' kl_pop ?F ?N (kpa_last (Value.ref a9) vs9) ?U hlen9 ?_; (case F => k_asm); (case N => k_asm); (case U => k_upd)); intro h' F' N'; (try k_sweep)))
  (k_with "call ref" => (k_here; (with_reducible show wpAny _ _ (call (Value.ref 312) _) _ _ _); k_dflt (
  refine' kind_call ?kB ?kF ?kX ?kN ?kT ?kk ?kd ?ku ?su ?th ?_
  (case kB => k_asm)
  (case kF => k_asm)
  (case kX => k_asm)
  (case kN => k_asm)
  (case kT => k_asm)
  (case kk => first | exact rfl | assumption)
  (case kd => exact room_k (by with_reducible assumption))
  (case ku => exact units_k (by with_reducible assumption))
  (case th => first | exact hl9 | exact hr9)
  (case su => kp_flats)
  k_whole
  intro t9 h9 tk9 F9 N9
  (try k_sweep)
  (try dsimp only)
  (try k_fold))))
  (k_with "compareOp NotEq str str" => (k_here; k_dflt (first | refine ne_kw_same hkw ?_ | refine ne_kw_diff hkw ?_)))
  (k_with "compareOp Eq str str" => (k_here; k_dflt (first | refine eq_str_ne (by with_reducible assumption) ?_ | refine eq_kw_b true (by kernel_rfl!) ?_ | refine eq_kw_b false (by kernel_rfl!) ?_)))
  (k_with "compareOp Eq str str" => (k_here; (with_reducible show wpAny _ _ (compareOp CmpOp.Eq (Value.str (kw _) _) _) _ _ _); rcases hkinds9 with @⟨x9, d9, y9, e9, n19, n29, t19, t29, t39, t49, v19, v29, w19, w29, p19, p29, q19, q29, hx9, hd9, hv19, hv29, hy9, he9, hw19, hw29⟩ | @⟨x9, d9, c9, y9, e9, g9, n19, n29, n39, n49, t19, t29, hx9, hd9, hc9, hy9, he9, hg9⟩ | @⟨x9, d9, c9, y9, e9, g9, n19, n29, n39, n49, t19, t29, v19, w19, p19, q19, hx9, hd9, hc9, hy9, he9, hg9, hv19, hw19⟩ | @⟨x9, d9, c9, y9, e9, g9, n19, n29, n39, n49, t19, t29, v19, w19, v29, w29, p19, q19, p29, q29, hx9, hd9, hc9, hy9, he9, hg9, hv19, hw19, hv29, hw29⟩ | @⟨x9, d9, c9, y9, e9, g9, n19, n29, n39, n49, t19, t29, v19, w19, v29, w29, v39, w39, p19, q19, p29, q29, p39, q39, hx9, hd9, hc9, hy9, he9, hg9, hv19, hw19, hv29, hw29, hv39, hw39⟩ | @⟨x9, d9, c9, y9, e9, g9, n19, n29, n39, n49, t19, t29, v19, w19, v29, w29, v39, w39, v49, w49, p19, q19, p29, q29, p39, q39, p49, q49, hx9, hd9, hc9, hy9, he9, hg9, hv19, hw19, hv29, hw29, hv39, hw39, hv49, hw49⟩ | @⟨x9, d9, c9, y9, e9, g9, n19, n29, n39, n49, t19, t29, vs19, ws19, ps9, qs9, hx9, hd9, hc9, hy9, he9, hg9, hlne9, hl19, hl29, hne9⟩ | @⟨x9, d9, c9, y9, e9, g9, n19, n29, n39, n49, t19, t29, j9, vs19, ws19, hx9, hd9, hc9, hi9, hy9, he9, hg9, hik9⟩ | @⟨x9, d9, c9, y9, e9, g9, n19, n29, n39, n49, t19, t29, j9, k89, vs19, ws19, hx9, hd9, hc9, hi9, hy9, he9, hg9, hik9, hcne9, hne9⟩ | ⟨ha19, ha29, ha39, htl9, htr9⟩ | ⟨ha19, ha29, ha39, hne9, htl9, htr9, hkk9⟩; (all_goals (try (have hhv19 := hv19.handed))); (all_goals (try (have hhw19 := hw19.handed))); (all_goals (try (have hhv29 := hv29.handed))); (all_goals (try (have hhw29 := hw29.handed))); (all_goals (try (have hhv39 := hv39.handed))); (all_goals (try (have hhw39 := hw39.handed))); (all_goals (try (have hhv49 := hv49.handed))); (all_goals (try (have hhw49 := hw49.handed))); skip))
  (k_with "call ref" => (k_here; (with_reducible show wpAny _ _ (call (Value.ref 432) _) _ _ _); k_dflt (
  refine' atoms_call ?kB ?kF ?kX ?kN ?kT ?kk ?kd ?ku hfok ?su htl9 htr9 ?kw ha19 ha29 ha39 ?_
  (case kB => k_asm)
  (case kF => k_asm)
  (case kX => k_asm)
  (case kN => k_asm)
  (case kT => k_asm)
  (case kk => first | exact rfl | assumption)
  (case kd => exact room_ka (by with_reducible assumption))
  (case ku => exact units_ka (by with_reducible assumption))
  (case su => kp_flats)
  (case kw => first | exact rfl | exact hkk9)
  k_whole
  intro h9 tk9 F9 N9
  (first | rw [decide_eq_false hne9] | rw [decide_eq_true rfl])
  (try k_sweep)
  (try dsimp only)
  (try k_fold))))
  (k_with "call builtin:list.append" => (k_here; (with_reducible show wpAny _ _ (call (Value.builtin _) [Value.ref _, _]) _ _ _); k_dflt (refine' append_K ?k1 ?k2 ?k3 ?_ ?z; (case k1 => k_asm); (case k2 => k_asm); (case k3 => k_upd); (case z => ((simp only [Array.size_push, List.size_toArray]); omega)); k_whole); intro h' F' N'; (try k_sweep)))
  (k_with "subscriptTail" => (k_here; (with_reducible show wpAny _ _ (subscriptTail _ _ (Value.ref _) (Value.int _ _)) _ _ _); k_dflt (refine' list_itemJ ?N ?m ?lo ?hi ?x ?_; (case N => k_asm); (case m => k_mem); (case lo => decide); (case hi => decide); (case x => rfl); k_whole)))
  (k_with "UnrEnd" => (
  k_here
  (rename Fr _ _ _ _ => kF)
  (rename News _ _ _ _ => kN)
  (iterate 12 (try ((with_reducible rename _ ∧ _ => hh9); obtain ⟨_, _⟩ := hh9)))
  (refine' unr_pick kF kN ?p1 ?off ?_;
   (case p1 => (repeat' (first | (with_reducible exact Pick.head) | (with_reducible refine' Pick.tail ?_) | (with_reducible refine' Pick.app ?_))));
   (case off => (repeat' (first | (with_reducible assumption) | exact List.forall_mem_nil _ | (with_reducible refine List.forall_mem_cons.mpr ⟨?_, ?_⟩) | exact apart_lt (by with_reducible assumption) | exact apart_lt (allLt_app.mpr ⟨by with_reducible assumption, by with_reducible assumption⟩) | (with_reducible refine List.forall_mem_append.mpr ⟨?_, ?_⟩) | (first | exact gt_ne (by with_reducible assumption) | k_ne) | assumption))))))
  (k_with "WhileStep2" => (k_here; (with_reducible refine ws2_ret ?_); (try dsimp only)))
  have hh1 := hl.handed
  have hh2 := hr.handed
  refine wpAny_call ?_
  k_dflt (first | (refine' code_defC ?k1 ?k2 ?k3 ?k4 ?k5 ?kA ?kF ?kK ?k6 ?k7 ?k8 ?k9 ?kB ?kD ?_ ?c2 ?c3 ?c4; (case kA => exact rfl); (case kF => exact rfl); (case kK => assumption); (case k1 => k_asm); (case k2 => k_asm); (case k3 => k_asm); (case k4 => k_asm); (case k5 => k_asm); (case k6 => k_is); (case k7 => k_is); (case k8 => ktr_room); (case k9 => first | exact BindsTo.of_eq rfl | exact binds_K (by k_in) rfl (by k_is) rfl rfl rfl | fail "k_enter: no rule for these arguments"); (case kB => exact rfl); (case kD => decide +kernel); (case c2 => exact rfl); (case c3 => exact rfl); (case c4 => exact rfl); k_whole; intro g' L' h' tk' cells' FG' F' N' Y' B' X' T' l1; (try k_lt l1); k_cells Y'; (try simp only [List.cons_append, List.nil_append] at N'); (try dsimp only); (try k_lift B'); (try k_fold)) | ktr_enter)
  k_steps
  all_goals (try dsimp only)
  all_goals (try k_steps)
  all_goals (
    (rename Fr _ _ _ _ => kF)
    (rename News _ _ _ _ => kN)
    (iterate 12 (try ((with_reducible rename _ ∧ _ => hh9); obtain ⟨_, _⟩ := hh9)))
    (try simp only [List.push_toArray, List.append_assoc, List.cons_append, List.nil_append] at kN)
    first
    | exact cast_q (decide_eq_true (hres.mpr fun _ h9 => nomatch h9)).symm (ret _ _ kF (news_sub kN (by kp_flats)))
    | exact cast_q (decide_eq_false (res_false hres (fun e9 => hkw (by rw [e9])))).symm (ret _ _ kF (news_sub kN (by kp_flats)))
    | exact cast_q (decide_eq_false (res_false hres (fun e9 => hne9 (Pic.vec.inj e9)))).symm (ret _ _ kF (news_sub kN (by kp_flats)))
    | exact cast_q (decide_eq_false (res_false hres (fun e9 => hne9 (Pic.str.inj e9)))).symm (ret _ _ kF (news_sub kN (by kp_flats)))
    | exact cast_q (decide_eq_false (res_false hres hne9)).symm (ret _ _ kF (news_sub kN (by kp_flats)))
    | (refine' same_next kF kN ?p1 ?tl ?hm ?htl ?stk htot ?lt hle hres ?new (new := [(p29, q29), (p19, q19)]);
        (case p1 => (repeat' (first | exact Pick.head | (with_reducible refine' Pick.tail ?_) | (with_reducible refine' Pick.app ?_))));
        (case tl => (repeat' (first | exact Tail.nil | (with_reducible refine' Tail.cons ?_) | (with_reducible refine' Tail.app ?_))));
        (case hm => with_unfolding_all rfl);
        (case htl => (repeat' (first | (with_reducible assumption) | exact List.forall_mem_nil _ | (with_reducible refine List.forall_mem_cons.mpr ⟨?_, ?_⟩) | (with_reducible refine List.forall_mem_append.mpr ⟨?_, ?_⟩) | (first | exact gt_ne (by with_reducible assumption) | k_ne) | assumption)));
        (case stk => exact Stk.app (Stk.mono (by kp_flats) hstk9) (.cons (by kct_strs) hv29 hw29 (.cons (by kct_strs) hv19 hw19 .nil)));
        (case lt => ((simp only [tot, Pic.sz, Pic.szs]); first | omega | exact sz_pos _));
        (case new => simp [and_comm, and_assoc, and_left_comm]))
    | (refine' same_next kF kN ?p1 ?tl ?hm ?htl ?stk htot ?lt hle hres ?new (new := [(p19, q19), (p29, q29), (p39, q39), (p49, q49)]);
        (case p1 => (repeat' (first | exact Pick.head | (with_reducible refine' Pick.tail ?_) | (with_reducible refine' Pick.app ?_))));
        (case tl => (repeat' (first | exact Tail.nil | (with_reducible refine' Tail.cons ?_) | (with_reducible refine' Tail.app ?_))));
        (case hm => with_unfolding_all rfl);
        (case htl => (repeat' (first | (with_reducible assumption) | exact List.forall_mem_nil _ | (with_reducible refine List.forall_mem_cons.mpr ⟨?_, ?_⟩) | (with_reducible refine List.forall_mem_append.mpr ⟨?_, ?_⟩) | (first | exact gt_ne (by with_reducible assumption) | k_ne) | assumption)));
        (case stk => exact Stk.app (Stk.mono (by kp_flats) hstk9) (.cons (by kct_strs) hv19 hw19 (.cons (by kct_strs) hv29 hw29 (.cons (by kct_strs) hv39 hw39 (.cons (by kct_strs) hv49 hw49 .nil)))));
        (case lt => ((simp only [tot, Pic.sz, Pic.szs]); first | omega | exact sz_pos _));
        (case new => simp [and_comm, and_assoc, and_left_comm]))
    | (refine' same_next kF kN ?p1 ?tl ?hm ?htl ?stk htot ?lt hle hres ?new (new := [(p19, q19), (p29, q29), (p39, q39)]);
        (case p1 => (repeat' (first | exact Pick.head | (with_reducible refine' Pick.tail ?_) | (with_reducible refine' Pick.app ?_))));
        (case tl => (repeat' (first | exact Tail.nil | (with_reducible refine' Tail.cons ?_) | (with_reducible refine' Tail.app ?_))));
        (case hm => with_unfolding_all rfl);
        (case htl => (repeat' (first | (with_reducible assumption) | exact List.forall_mem_nil _ | (with_reducible refine List.forall_mem_cons.mpr ⟨?_, ?_⟩) | (with_reducible refine List.forall_mem_append.mpr ⟨?_, ?_⟩) | (first | exact gt_ne (by with_reducible assumption) | k_ne) | assumption)));
        (case stk => exact Stk.app (Stk.mono (by kp_flats) hstk9) (.cons (by kct_strs) hv19 hw19 (.cons (by kct_strs) hv29 hw29 (.cons (by kct_strs) hv39 hw39 .nil))));
        (case lt => ((simp only [tot, Pic.sz, Pic.szs]); first | omega | exact sz_pos _));
        (case new => simp [and_comm, and_assoc, and_left_comm]))
    | (refine' same_next kF kN ?p1 ?tl ?hm ?htl ?stk htot ?lt hle hres ?new (new := [(p19, q19), (p29, q29)]);
        (case p1 => (repeat' (first | exact Pick.head | (with_reducible refine' Pick.tail ?_) | (with_reducible refine' Pick.app ?_))));
        (case tl => (repeat' (first | exact Tail.nil | (with_reducible refine' Tail.cons ?_) | (with_reducible refine' Tail.app ?_))));
        (case hm => with_unfolding_all rfl);
        (case htl => (repeat' (first | (with_reducible assumption) | exact List.forall_mem_nil _ | (with_reducible refine List.forall_mem_cons.mpr ⟨?_, ?_⟩) | (with_reducible refine List.forall_mem_append.mpr ⟨?_, ?_⟩) | (first | exact gt_ne (by with_reducible assumption) | k_ne) | assumption)));
        (case stk => exact Stk.app (Stk.mono (by kp_flats) hstk9) (.cons (by kct_strs) hv19 hw19 (.cons (by kct_strs) hv29 hw29 .nil)));
        (case lt => ((simp only [tot, Pic.sz, Pic.szs]); first | omega | exact sz_pos _));
        (case new => simp [and_comm, and_assoc, and_left_comm]))
    | (refine' same_next kF kN ?p1 ?tl ?hm ?htl ?stk htot ?lt hle hres ?new (new := [(p19, q19)]);
        (case p1 => (repeat' (first | exact Pick.head | (with_reducible refine' Pick.tail ?_) | (with_reducible refine' Pick.app ?_))));
        (case tl => (repeat' (first | exact Tail.nil | (with_reducible refine' Tail.cons ?_) | (with_reducible refine' Tail.app ?_))));
        (case hm => with_unfolding_all rfl);
        (case htl => (repeat' (first | (with_reducible assumption) | exact List.forall_mem_nil _ | (with_reducible refine List.forall_mem_cons.mpr ⟨?_, ?_⟩) | (with_reducible refine List.forall_mem_append.mpr ⟨?_, ?_⟩) | (first | exact gt_ne (by with_reducible assumption) | k_ne) | assumption)));
        (case stk => exact Stk.app (Stk.mono (by kp_flats) hstk9) (.cons (by kct_strs) hv19 hw19 .nil));
        (case lt => ((simp only [tot, Pic.sz, Pic.szs]); first | omega | exact sz_pos _));
        (case new => simp [and_comm, and_assoc, and_left_comm]))
    | (refine' same_next kF kN ?p1 ?tl ?hm ?htl ?stk htot ?lt hle hres ?new (new := []);
        (case p1 => (repeat' (first | exact Pick.head | (with_reducible refine' Pick.tail ?_) | (with_reducible refine' Pick.app ?_))));
        (case tl => (repeat' (first | exact Tail.nil | (with_reducible refine' Tail.cons ?_) | (with_reducible refine' Tail.app ?_))));
        (case hm => with_unfolding_all rfl);
        (case htl => (repeat' (first | (with_reducible assumption) | exact List.forall_mem_nil _ | (with_reducible refine List.forall_mem_cons.mpr ⟨?_, ?_⟩) | (with_reducible refine List.forall_mem_append.mpr ⟨?_, ?_⟩) | (first | exact gt_ne (by with_reducible assumption) | k_ne) | assumption)));
        (case stk => exact stk_same (Stk.mono (by kp_flats) hstk9));
        (case lt => ((simp only [tot, Pic.sz, Pic.szs]); first | omega | exact sz_pos _));
        (case new => simp [and_comm, and_assoc, and_left_comm])))
end
section
variable {prog : Program} {w : World} {A : Around} {E : Value → Shared → Prop} {s : Shared} {h₀ : Heap} {L : Addr} {m : Str → Option Value}
theorem compRestT_ind {env : Env} {ct elt : Expr} {x : Str} {scope : Scope} {cl' : List (Str × Addr)} {S : List (Addr × Obj) → Prop} {P : Nat → Value → Prop} {Fin : List Value → List (Addr × Obj) → Prop} {s : Shared} (K : Nat) (J : Nat → List Value → List (Addr × Obj) → Prop)
    (step : ∀ i ys nx, i < K → J i ys nx → ∀ v I oI C oC D m₂ h tk (E' : Value → Shared → Prop), P i v → LCg.NsObj oC m₂ → m₂ x = some v → Fr h₀ L h m → News h₀ L h ((I, oI) :: (C, oC) :: (D, LCg.lst ys) :: nx) → LCg.Off3 I C D nx → ((@Ne Nat I C) ∧ (@Ne Nat I D) ∧ (@Ne Nat C D)) →
      wpAny (model prog w) A (isTrue ct (compEnvC scope cl' C env) (eval ct (compEnvC scope cl' C env))) (fun ok s' => if ok = true then
        wpAny (model prog w) A (eval elt (compEnvC scope cl' C env)) (LCg.CompEnd h₀ L m { s with heap := h, toks := tk } I oI C oC D (LCg.lst ys) S (fun y news' => J (i + 1) (ys ++ [y]) news')) E' s'
        else LCg.CompEnd h₀ L m { s with heap := h, toks := tk } I oI C oC D (LCg.lst ys) S (fun _ news' => J (i + 1) ys news') Value.none s') E' { s with heap := h, toks := tk })
    (fin : ∀ ys nx, J K ys nx → Fin ys nx) : ∀ (k i : Nat) (ys : List Value) (nx : List (Addr × Obj)), i + k = K → J i ys nx → LCt.CompRestT prog w A h₀ L m env ct elt x scope cl' s S P Fin k i ys nx := by
  intro k
  induction k with
  | zero =>
    intro i ys nx hi hj
    have : i = K := by omega
    subst this
    exact LCt.CompRestT.zero (fin ys nx hj)
  | succ k ih =>
    intro i ys nx hi hj
    refine LCt.CompRestT.succ fun v I oI C oC D m₂ h tk E' h1 h2 h3 h4 h5 h6 h7 => ?_
    refine wpAny_mono (step i ys nx (by omega) hj v I oI C oC D m₂ h tk E' h1 h2 h3 h4 h5 h6 h7) (fun ok s' hh => ?_) fun _ _ x => x
    cases ok with
    | true =>
      simp only [if_true] at hh ⊢
      refine wpAny_mono hh (fun y s₂ h => ?_) fun _ _ x => x
      obtain ⟨h', tk', news', e, F, N, off, hS, r⟩ := h
      exact ⟨h', tk', news', e, F, N, off, hS, ih (i + 1) _ _ (by omega) r⟩
    | false =>
      simp only [Bool.false_eq_true, if_false] at hh ⊢
      obtain ⟨h', tk', news', e, F, N, off, hS, r⟩ := hh
      exact ⟨h', tk', news', e, F, N, off, hS, ih (i + 1) _ _ (by omega) r⟩
end
theorem ints_at {vs : List Value} {ns : List Int} {i : Nat} {v : Value} (h : IntsAre vs ns) (hv : vs.toArray[i]? = some v) : ∃ c t, v = .int c t ∧ c ∈ ns := by
  rw [List.getElem?_toArray] at hv
  induction h generalizing i with
  | nil => simp at hv
  | cons n t _ ih =>
    cases i with
    | zero => simp at hv; exact ⟨_, _, hv.symm, .head _⟩
    | succ i =>
      obtain ⟨c, u, e, hc⟩ := ih (by simpa using hv)
      exact ⟨c, u, e, .tail _ hc⟩
def DeckJ (base : List (Addr × Obj)) (i : Nat) (ys : List Value) (nx : List (Addr × Obj)) : Prop := nx = base ∧ ∃ cs, IntsAre ys cs ∧ cs.length ≤ i ∧ ∀ c ∈ cs, 0 ≤ c
theorem deck_nn {ns : List Int} {c k : Int} {b : Nat} (h : c ∈ List.map (fun k' => (if k' < 0 then -k' else k').fmod (10 ^ b)) ns) : 0 ≤ c := by
  obtain ⟨x, _, rfl⟩ := List.mem_map.mp h
  exact Int.fmod_nonneg_of_pos _ (Int.pow_pos (by decide))
theorem deck_size {ys : List Value} {l : List Int} {ns : List Int} {f : Int → Int} (h : ys.length = (List.map f (List.take 24 ns)).length) : ys.toArray.size ≤ sizeLine := by
  rw [List.size_toArray, h, List.length_map, List.length_take, sizeLine_eq]; omega
theorem deck_yes {base : List (Addr × Obj)} {i : Nat} {ys : List Value} {cs : List Int} {c : Int} {t : Tok} (h : IntsAre ys cs) (hl : cs.length ≤ i) (hn : ∀ c ∈ cs, 0 ≤ c) (hc : 0 ≤ c) : DeckJ base (i + 1) (ys ++ [.int c t]) base :=
  ⟨rfl, cs ++ [c], h.append (.cons c t .nil), by rw [List.length_append, List.length_singleton]; omega, fun x hx => (List.mem_append.mp hx).elim (hn x) fun hx => by rw [List.mem_singleton.mp hx]; exact hc⟩
theorem deck_no {base : List (Addr × Obj)} {i : Nat} {ys : List Value} {cs : List Int} (h : IntsAre ys cs) (hl : cs.length ≤ i) (hn : ∀ c ∈ cs, 0 ≤ c) : DeckJ base (i + 1) ys base := ⟨rfl, cs, h, by omega, hn⟩
theorem deck_mixed : ∀ (l : List Int) (a : Int), 0 ≤ a → a < 2147483647 → 0 ≤ l.foldl (fun a' n' => (a' * 31 + n' + 3).fmod 2147483647) a ∧ l.foldl (fun a' n' => (a' * 31 + n' + 3).fmod 2147483647) a < 2147483647
  | [], _, h0, h1 => ⟨h0, h1⟩
  | _ :: l, _, _, _ => deck_mixed l _ (Int.fmod_nonneg_of_pos _ (by decide)) (Int.fmod_lt_of_pos _ (by decide))
theorem deck_cells {ys : List Value} {cs : List Int} {ns : List Int} {f : Int → Int} (h : cs.length ≤ ys.toArray.size) (hl : ys.length = (List.map f (List.take 24 ns)).length) (hn : ∀ c ∈ cs, 0 ≤ c) : CellsOk cs :=
  ⟨by rw [List.size_toArray, hl, List.length_map, List.length_take] at h; omega, hn⟩
section
variable {prog : Program} {w : World} {p : Program} {loose : List Str} {mean : ExcName → Option Value} {mg mb : Str → Option Value}
set_option maxHeartbeats 4000000 in
theorem deck_call {dp un : Nat} {gd : Option (List Code)} {cn : Str} {cs : Scope} {a : Addr} {ccd : Value} {cl : List (Str × Addr)} {outer : List Env} {A₀ : Around} {base h₀ : Heap} {L : Addr} {m : Str → Option Value} {s : Shared} {Q E : Value → Shared → Prop}
    {sc : Addr} {svs : List Value} {ns : List Int}
    (B : Below A₀ base outer h₀) (F : Fr h₀ L s.heap m) (X : (Mine.hd.heap_39 w.params).In h₀)
    (N : News h₀ L s.heap [])
    (T : Top p loose mean mg mb h₀) (hk : cs.kind = .function) (hd : dp + 5 < recursionLimit) (hu : un + 200 < cLine)
    (hsc : h₀.IsList sc svs.toArray) (hsi : IntsAre svs ns) (hsl : ns.length ≤ 63)
    (ret : ∀ d l mixed t n1 vals n2 cells h' tk', IntsAre vals cells → CellsOk cells → 0 ≤ mixed → mixed < 2147483647 → @Ne Nat d l → Fr h₀ L h' m → News h₀ L h' [(d, listOf [Value.ref l, Value.int mixed t].toArray n1), (l, listOf vals.toArray n2)] → Q (.ref d) { s with heap := h', toks := tk' }) :
    wpAny (model prog w) (ktrTop dp un gd cn cs L a ccd cl outer) (call (.ref 444) [.ref sc]) Q E s := by
  w_top off
  k_with_none
  (k_with "CompEnd" => (k_here; (rename Fr _ _ _ _ => kF); (rename News _ _ _ _ => kN); k_dflt (
  refine' compEnd_pick kF kN ?pI ?pC ?pD ?off ?hS ?_
  (case pI => (repeat' (first | exact Pick.head | (with_reducible refine' Pick.tail ?_) | (with_reducible refine' Pick.app ?_))))
  (case pC => (repeat' (first | exact Pick.head | (with_reducible refine' Pick.tail ?_) | (with_reducible refine' Pick.app ?_))))
  (case pD => (repeat' (first | exact Pick.head | (with_reducible refine' Pick.tail ?_) | (with_reducible refine' Pick.app ?_))))
  (case off => (repeat' (first | exact List.forall_mem_nil _ | (with_reducible refine List.forall_mem_cons.mpr ⟨off3_addr (by with_reducible assumption) (by (repeat' (first | (with_reducible exact mem_h) | (with_reducible refine mem_t ?_) | (with_reducible refine mem_r ?_)))), ?_⟩) | (with_reducible refine List.forall_mem_append.mpr ⟨?_, ?_⟩) | exact off3_over (by with_reducible assumption) (by (repeat' (first | (with_reducible exact mem_h) | (with_reducible refine mem_t ?_) | (with_reducible refine mem_r ?_)))) (by (repeat' (first | (with_reducible exact mem_h) | (with_reducible refine mem_t ?_) | (with_reducible refine mem_r ?_)))) (by (repeat' (first | (with_reducible exact mem_h) | (with_reducible refine mem_t ?_) | (with_reducible refine mem_r ?_)))) | (intro e9 he9; exact LCg.Off3.mem (by with_reducible assumption) e9 (by (repeat' (first | with_reducible exact he9 | (with_reducible refine mem_t ?_) | (with_reducible exact mem_l he9) | (with_reducible refine mem_r ?_))))))))
  (case hS => first | exact trivial | exact Or.inr ⟨_, (by kct_strs), rfl, _, rfl⟩))))
  (k_with "FinE" => ((unfold LCg.FinE); intro D' h' tk' F' N' o1'; have o9 := o1'; (try simp only [LCg.Off1, and_true] at o1'); (try simp only [List.nil_append, List.cons_append] at N'); (try dsimp only)))
  (k_with "eval ListComp" => (k_here; (with_reducible show wpAny _ _ (eval (PySem.Expr.ListComp _ [⟨_, _, [_], _⟩] _ _) _) _ _ _); k_dflt (refine LCt.ListComp_T (F₀ := by k_asm) (by with_unfolding_all rfl) (by decide) (by rfl) (by decide) (by rfl) ?_)))
  (k_with "CompSrcT" => (
  k_here
  (rename Fr _ _ _ _ => kF)
  (rename News _ _ _ _ => kN)
  (rename IntsAre _ (List.map _ _) => hI8)
  (rename _ = List.length (List.map _ _) => hL8)
  k_dflt (
  refine' LCt.CompSrcT.ledger ?hh kF kN ?hm (deck_size (l := ns) hL8) ?_
  (case hh => exact rfl)
  (case hm => exact (by kct_strs))
  intro g9
  refine' compRestT_ind _ (DeckJ _) ?_ ?_ _ 0 [] _ (Nat.zero_add _) ⟨rfl, [], .nil, Nat.le_refl 0, fun _ h => nomatch h⟩
  rotate_left
  rintro ys9 nx9 ⟨rfl, cs9, hcs9, hlen9, hnn9⟩
  (try dsimp only)
  rotate_left
  rintro i9 ys9 nx9 hi9 ⟨rfl, cs9, hcs9, hlen9, hnn9⟩ v9 I9 oI9 C9 oC9 D9 m9 h9 tk9 E9 hP9 hC9 hx9 F9 N9 off9 ne9
  obtain ⟨c9, t9, rfl, hc9⟩ := ints_at hI8 hP9
  have hc0 := deck_nn (k := 0) hc9
  (try dsimp only))))
  refine wpAny_call ?_
  k_dflt (first | (refine' code_defC ?k1 ?k2 ?k3 ?k4 ?k5 ?kA ?kF ?kK ?k6 ?k7 ?k8 ?k9 ?kB ?kD ?_ ?c2 ?c3 ?c4; (case kA => exact rfl); (case kF => exact rfl); (case kK => assumption); (case k1 => k_asm); (case k2 => k_asm); (case k3 => k_asm); (case k4 => k_asm); (case k5 => k_asm); (case k6 => k_is); (case k7 => k_is); (case k8 => ktr_room); (case k9 => first | exact BindsTo.of_eq rfl | exact binds_K (by k_in) rfl (by k_is) rfl rfl rfl | fail "k_enter: no rule for these arguments"); (case kB => exact rfl); (case kD => decide +kernel); (case c2 => exact rfl); (case c3 => exact rfl); (case c4 => exact rfl); k_whole; intro g' L' h' tk' cells' FG' F' N' Y' B' X' T' l1; (try k_lt l1); k_cells Y'; (try simp only [List.cons_append, List.nil_append] at N'); (try dsimp only); (try k_lift B'); (try k_fold)) | ktr_enter)
  (with_reducible rename Fr h₀ L _ m => FG9)
  have hsc' := hsc.at fun o e => FG9.keep sc o e
  k_steps
  all_goals first
    | exact deck_yes hcs9 hlen9 hnn9 hc0
    | exact deck_no hcs9 hlen9 hnn9
    | ((rename Fr _ _ _ _ => kF); (rename News _ _ _ _ => kN); (rename _ = List.length (List.map _ _) => hL8);
       have hsub : ∀ q ∈ ([] : List (Addr × Obj)), q ∈ ([] : List (Addr × Obj)) := fun _ h => h
       refine' ret _ _ _ _ _ _ _ cs9 _ _ hcs9 (deck_cells hlen9 hL8 hnn9) ?m0 ?m1 ?ne kF (news_sub kN ?sub)
       (case sub => kp_flats)
       (case m0 => exact (deck_mixed _ 7 (by decide) (by decide)).1)
       (case m1 => exact (deck_mixed _ 7 (by decide) (by decide)).2)
       (case ne => ((iterate 12 (try ((with_reducible rename _ ∧ _ => hh9); obtain ⟨_, _⟩ := hh9))); first | k_ne | exact gt_ne (by with_reducible assumption))))
end
def isAtom : Pic → Bool
  | .vec _ => false
  | .pair _ _ => false
  | .str _ => false
  | _ => true
theorem room_ia {dp R : Nat} (h : dp + 5 < R) : dp + 1 + 2 < R := by omega
theorem units_ia {un R : Nat} (h : un + 200 < R) : un + 3 + 100 < R := by omega
theorem atom_is : ∀ p : Pic, ([Str.ofString "boolean", Str.ofString "number", Str.ofString "symbol", Str.ofString "char", Str.ofString "empty", Str.ofString "unspecified"].any (· == kw p)) = isAtom p
  | .num _ _ | .truth _ | .char _ | .sym _ | .str _ | .empty | .nothing | .vec _ | .pair _ _ => by kernel_rfl!
theorem cast_qa {Q : Value → Shared → Prop} {st : Shared} {b c : Bool} (e : b = c) (h : Q (.bool c) st) : Q (.bool b) st := e ▸ h
section
variable {prog : Program} {w : World} {p : Program} {loose : List Str} {mean : ExcName → Option Value} {mg mb : Str → Option Value}
set_option maxHeartbeats 4000000 in
theorem isatom_call {dp un : Nat} {gd : Option (List Code)} {cn : Str} {cs : Scope} {a : Addr} {ccd : Value} {cl : List (Str × Addr)} {outer : List Env} {A₀ : Around} {base h₀ : Heap} {L : Addr} {m : Str → Option Value} {news sy : List (Addr × Obj)} {s : Shared} {Q E : Value → Shared → Prop}
    {f : Option Int} {v : Value} {pic : Pic}
    (B : Below A₀ base outer h₀) (F : Fr h₀ L s.heap m) (X : (Mine.hd.heap_39 w.params).In h₀)
    (N : News h₀ L s.heap news)
    (T : Top p loose mean mg mb h₀) (hk : cs.kind = .function) (hd : dp + 5 < recursionLimit) (hu : un + 200 < cLine)
    (hsub : ∀ q ∈ sy, q ∈ news) (hth : Th w.params f sy v pic)
    (ret : ∀ h' tk', Fr h₀ L h' m → News h₀ L h' news → Q (.bool (isAtom pic)) { s with heap := h', toks := tk' }) :
    wpAny (model prog w) (ktrTop dp un gd cn cs L a ccd cl outer) (call (.ref 425) [v]) Q E s := by
  w_top off
  k_with_none
  (k_with "call ref" => (k_here; (with_reducible show wpAny _ _ (call (Value.ref 312) _) _ _ _); k_dflt (
  refine' kind_call ?kB ?kF ?kX ?kN ?kT ?kk ?kd ?ku ?su ?th ?_
  (case kB => k_asm)
  (case kF => k_asm)
  (case kX => k_asm)
  (case kN => k_asm)
  (case kT => k_asm)
  (case kk => first | exact rfl | assumption)
  (case kd => exact room_ia (by with_reducible assumption))
  (case ku => exact units_ia (by with_reducible assumption))
  (case th => exact hth)
  (case su => kp_flats)
  k_whole
  intro t9 h9 tk9 F9 N9
  (try k_sweep)
  (try dsimp only)
  (try k_fold))))
  (k_with "compareOp In str ref" => (k_here; (with_reducible show wpAny _ _ (compareOp CmpOp.In (Value.str _ _) (Value.ref _)) _ _ _); k_dflt (refine' in_tuple_strs (ys := [Str.ofString "boolean", Str.ofString "number", Str.ofString "symbol", Str.ofString "char", Str.ofString "empty", Str.ofString "unspecified"]) ?k1 ?k2 ?_; (case k1 => kun_tup); (case k2 => kde_strs))))
  have hh1 := hth.handed
  refine wpAny_call ?_
  k_dflt (first | (refine' code_defC ?k1 ?k2 ?k3 ?k4 ?k5 ?kA ?kF ?kK ?k6 ?k7 ?k8 ?k9 ?kB ?kD ?_ ?c2 ?c3 ?c4; (case kA => exact rfl); (case kF => exact rfl); (case kK => assumption); (case k1 => k_asm); (case k2 => k_asm); (case k3 => k_asm); (case k4 => k_asm); (case k5 => k_asm); (case k6 => k_is); (case k7 => k_is); (case k8 => ktr_room); (case k9 => first | exact BindsTo.of_eq rfl | exact binds_K (by k_in) rfl (by k_is) rfl rfl rfl | fail "k_enter: no rule for these arguments"); (case kB => exact rfl); (case kD => decide +kernel); (case c2 => exact rfl); (case c3 => exact rfl); (case c4 => exact rfl); k_whole; intro g' L' h' tk' cells' FG' F' N' Y' B' X' T' l1; (try k_lt l1); k_cells Y'; (try simp only [List.cons_append, List.nil_append] at N'); (try dsimp only); (try k_lift B'); (try k_fold)) | ktr_enter)
  k_steps
  all_goals (
    (rename Fr _ _ _ _ => kF)
    (rename News _ _ _ _ => kN)
    exact cast_qa (atom_is pic) (ret _ _ kF kN))
end
def LawJ (prog : Program) (w : World) (d l ta td R D : Addr) (t1 t2 : Tok) (nt : Nat) (_i : Nat) (m : Str → Option Value) (nx : List (Addr × Obj)) : Prop :=
  ∃ (m' : Str → Option Value) (mixed : Int) (t : Tok) (n1 : Nat) (vals : List Value) (cells : List Int) (n2 : Nat) (rows : List Value) (nR : Nat) (es : List (Str × Value)) (oD : Obj) (f : Option Int) (sy tl : List (Addr × Obj)),
    m = (fun y => if y = Str.ofString "_law_deck_here" then some (.ref d) else if y = Str.ofString "_law_table" then some (.ref ta) else m' y) ∧
    nx = (d, listOf [Value.ref l, Value.int mixed t].toArray n1) :: (l, listOf vals.toArray n2) :: (R, listOf rows.toArray nR) :: (D, oD) :: tl ∧
    (ta, instObj 128 td) ∈ tl ∧ (td, dictOf [fld w.params (Str.ofString "rows") t1 (.ref R), fld w.params (Str.ofString "by_text") t2 (.ref D)] nt) ∈ tl ∧
    (∀ q ∈ tl, q.1 ≠ d) ∧ (∀ q ∈ tl, q.1 ≠ l) ∧ (∀ q ∈ tl, q.1 ≠ R) ∧ (∀ q ∈ tl, q.1 ≠ D) ∧
    IntsAre vals cells ∧ CellsOk cells ∧ 0 ≤ mixed ∧ mixed < 2147483647 ∧ TabSt w.params sy f rows es ∧ (∀ q ∈ sy, q ∈ tl) ∧ oD.IsDictOf (PySem.strKind prog w) es
theorem lawJ_mk {prog : Program} {w : World} {d l ta td R D : Addr} {t1 t2 : Tok} {nt i : Nat} {m : Str → Option Value} {mixed : Int} {t : Tok} {n1 : Nat} {vals : List Value} {cells : List Int} {n2 : Nat} {rows : List Value} {nR : Nat} {es : List (Str × Value)} {oD : Obj} {f : Option Int} {sy tl : List (Addr × Obj)}
    (h1 : m (Str.ofString "_law_deck_here") = some (.ref d)) (h2 : m (Str.ofString "_law_table") = some (.ref ta)) (h3 : (ta, instObj 128 td) ∈ tl) (h4 : (td, dictOf [fld w.params (Str.ofString "rows") t1 (.ref R), fld w.params (Str.ofString "by_text") t2 (.ref D)] nt) ∈ tl)
    (h5 : ∀ q ∈ tl, q.1 ≠ d) (h6 : ∀ q ∈ tl, q.1 ≠ l) (h7 : ∀ q ∈ tl, q.1 ≠ R) (h8 : ∀ q ∈ tl, q.1 ≠ D) (hI : IntsAre vals cells) (hc : CellsOk cells) (hm0 : 0 ≤ mixed) (hm1 : mixed < 2147483647) (ht : TabSt w.params sy f rows es) (hs : ∀ q ∈ sy, q ∈ tl) (hD : oD.IsDictOf (PySem.strKind prog w) es) :
    LawJ prog w d l ta td R D t1 t2 nt i m ((d, listOf [Value.ref l, Value.int mixed t].toArray n1) :: (l, listOf vals.toArray n2) :: (R, listOf rows.toArray nR) :: (D, oD) :: tl) := by
  refine ⟨m, mixed, t, n1, vals, cells, n2, rows, nR, es, oD, f, sy, tl, ?_, rfl, h3, h4, h5, h6, h7, h8, hI, hc, hm0, hm1, ht, hs, hD⟩
  funext y
  by_cases e : y = Str.ofString "_law_deck_here"
  · rw [if_pos e, e, h1]
  · rw [if_neg e]
    by_cases e' : y = Str.ofString "_law_table"
    · rw [if_pos e', e', h2]
    · rw [if_neg e']
theorem news4 {a b c d : Addr × Obj} {l r1 r2 r3 r4 : List (Addr × Obj)} {h₀ h : Heap} {L : Addr} (p1 : Pick a l r1) (p2 : Pick b r1 r2) (p3 : Pick c r2 r3) (p4 : Pick d r3 r4) (N : News h₀ L h l) : News h₀ L h (a :: b :: c :: d :: r4) := by
  refine news_sub (p1.news3 p2 p3 N) fun p hp => ?_
  rcases List.mem_cons.mp hp with rfl | hp
  · exact .head _
  · rcases List.mem_cons.mp hp with rfl | hp
    · exact .tail _ (.head _)
    · rcases List.mem_cons.mp hp with rfl | hp
      · exact .tail _ (.tail _ (.head _))
      · exact .tail _ (.tail _ (.tail _ (p4.mem p hp)))
section
variable {prog : Program} {w : World} {A : Around} {E : Value → Shared → Prop} {s : Shared} {h₀ : Heap} {env : Env} {x : Str} {body : List Stmt} {Q : Flow → Shared → Prop}
theorem news_of4 {a b c d : Addr × Obj} {l r1 r2 r3 r4 : List (Addr × Obj)} (p1 : Pick a l r1) (p2 : Pick b r1 r2) (p3 : Pick c r2 r3) (p4 : Pick d r3 r4) : ∀ q ∈ r4, q ∈ l := fun q hq => p1.mem q (.tail _ (p2.mem q (.tail _ (p3.mem q (.tail _ (p4.mem q (.tail _ hq)))))))
end
theorem law_start {P : Params} {d l ta td R D : Addr} {t1 t2 : Tok} {nt n1 n2 nR : Nat} {xs vals : List Value} {oD : Obj} {nw r1 r2 r3 r4 : List (Addr × Obj)} {h₀ h : Heap} {L : Addr} {G : Prop} (N : News h₀ L h nw) (_hta : (ta, instObj 128 td) ∈ nw)
    (_htd : (td, dictOf [fld P (Str.ofString "rows") t1 (.ref R), fld P (Str.ofString "by_text") t2 (.ref D)] nt) ∈ nw) (p1 : Pick (d, listOf xs.toArray n1) nw r1) (p2 : Pick (l, listOf vals.toArray n2) r1 r2) (p3 : Pick (R, listOf [].toArray nR) r2 r3) (p4 : Pick (D, oD) r3 r4)
    (g : News h₀ L h ((d, listOf xs.toArray n1) :: (l, listOf vals.toArray n2) :: (R, listOf [].toArray nR) :: (D, oD) :: r4) → G) : G := g (news4 p1 p2 p3 p4 N)
theorem mem_hd {a : Addr} {o o' : Obj} {l : List (Addr × Obj)} (h : o = o') : (a, o) ∈ (a, o') :: l := h ▸ .head _
theorem law_small {v : Int} (h : v = 1 ∨ v = 3) : Builtin.Range.small 0 v 1 = true := by rcases h with rfl | rfl <;> rfl
theorem law_size {v : Int} (h : v = 1 ∨ v = 3) : Builtin.Range.rangeSize 0 v 1 = ((v.toNat : Nat) : Int) := by rcases h with rfl | rfl <;> rfl
def bnd : Nat → Nat
  | 0 => 1
  | n + 1 => 4 * bnd n + 1
theorem bnd_pos : ∀ n, 1 ≤ bnd n
  | 0 => Nat.le_refl _
  | n + 1 => by simp only [bnd]; omega
theorem szs_le {b : Nat} : ∀ {ps : List Pic}, (∀ p ∈ ps, p.sz ≤ b) → Pic.szs ps ≤ ps.length * b
  | [], _ => Nat.zero_le _
  | p :: ps, h => by
    have h1 := h p (.head _)
    have h2 := szs_le (ps := ps) fun q hq => h q (.tail _ hq)
    simp only [Pic.szs, List.length_cons, Nat.add_mul, Nat.one_mul]
    omega
theorem sz_bnd {w : Nat} (hw : w ≤ 4) {n : Nat} {p : Pic} (h : Ok w n p) : p.sz ≤ bnd n := by
  induction h with
  | num h => exact bnd_pos _
  | truth h => exact bnd_pos _
  | char h => exact bnd_pos _
  | sym h => exact bnd_pos _
  | str h k => exact bnd_pos _
  | empty => exact bnd_pos _
  | nothing => exact bnd_pos _
  | @vec n ps h1 h2 ih =>
    have h3 := szs_le ih
    have h4 : ps.length * bnd n ≤ 4 * bnd n := Nat.mul_le_mul_right _ (Nat.le_trans h1 hw)
    simp only [Pic.sz, bnd]
    omega
  | pair h1 h2 ih1 ih2 =>
    simp only [Pic.sz, bnd]
    omega
theorem sz_small {p : Pic} (h : Ok 4 4 p) : p.sz ≤ 5000 := Nat.le_trans (sz_bnd (Nat.le_refl 4) h) (by decide)
section
variable {prog : Program} {w : World} {A : Around} {E : Value → Shared → Prop} {s : Shared} {env : Env}
theorem rangeRest_ind {h₀ : Heap} {x : Str} {body : List Stmt} {Q : Flow → Shared → Prop} {I : Addr} {a : Int} {n : Nat} (J : Nat → (Str → Option Value) → List (Addr × Obj) → Prop)
    (step : ∀ i m news, i < n → J i m news → (∀ p ∈ news, p.1 ≠ I) → ∀ t h tk, Fr h₀ env.locals h (fun y => if y = x then some (.int (a + (i : Int)) t) else m y) →
      News h₀ env.locals h ((I, itR (a + ((i + 1 : Nat) : Int)) ((n : Int) - ((i + 1 : Nat) : Int))) :: news) →
      wpAny (model prog w) A (execs body env) (UnrPost h₀ env.locals { s with heap := h, toks := tk } I (itR (a + ((i + 1 : Nat) : Int)) ((n : Int) - ((i + 1 : Nat) : Int))) (fun m' news' => J (i + 1) m' news') Q) E { s with heap := h, toks := tk })
    (fin : ∀ m news, J n m news → ∀ h tk, Fr h₀ env.locals h m → News h₀ env.locals h news → Q .next { s with heap := h, toks := tk }) :
    ∀ k i m news, i + k = n → J i m news → (∀ p ∈ news, p.1 ≠ I) → RangeRest prog w A E h₀ env x body Q s I a n k i m news := by
  intro k
  induction k with
  | zero =>
    intro i m news hi hj ho
    have : i = n := by omega
    subst this
    exact RangeRest.zero (fin m news hj)
  | succ k ih =>
    intro i m news hi hj ho
    refine RangeRest.succ fun t h tk F N => ?_
    refine wpAny_mono (step i m news (by omega) hj ho t h tk F N) (fun f s₂ hh => ?_) fun _ _ x => x
    have fin' : UnrEnd h₀ env.locals { s with heap := h, toks := tk } I (itR (a + ((i + 1 : Nat) : Int)) ((n : Int) - ((i + 1 : Nat) : Int))) (fun m' news' => J (i + 1) m' news') s₂ →
        UnrEnd h₀ env.locals { s with heap := h, toks := tk } I (itR (a + ((i + 1 : Nat) : Int)) ((n : Int) - ((i + 1 : Nat) : Int))) (RangeRest prog w A E h₀ env x body Q s I a n k (i + 1)) s₂ := by
      rintro ⟨h', tk', m', news', e, F', N', off, r⟩
      exact ⟨h', tk', m', news', e, F', N', off, ih (i + 1) m' news' (by omega) r off⟩
    cases f with
    | ret v => exact hh
    | brk => exact hh
    | next => exact fin' hh
    | cont => exact fin' hh
theorem law_loop {h₀ : Heap} {L : Addr} {x : Str} {body : List Stmt} {Q : Flow → Shared → Prop} {r : Addr} {v : Int} {t₀ u₀ v₀ : Tok} {m : Str → Option Value} {nw r1 r2 r3 r4 : List (Addr × Obj)}
    {d l ta td R D : Addr} {t1 t2 : Tok} {nt n1 n2 nR : Nat} {mixed : Int} {t : Tok} {vals : List Value} {cells : List Int} {oD : Obj}
    (hL : env.locals = L) (F : Fr h₀ L s.heap m) (N : News h₀ L s.heap nw) (hA : A.handled = none) (hR : IsRange s.heap r 0 v 1 t₀ u₀ v₀) (hv : v = 1 ∨ v = 3)
    (p1 : Pick (d, listOf [Value.ref l, Value.int mixed t].toArray n1) nw r1) (p2 : Pick (l, listOf vals.toArray n2) r1 r2) (p3 : Pick (R, listOf [].toArray nR) r2 r3) (p4 : Pick (D, oD) r3 r4)
    (hta' : (ta, instObj 128 td) ∈ r4) (htd' : (td, dictOf [fld w.params (Str.ofString "rows") t1 (.ref R), fld w.params (Str.ofString "by_text") t2 (.ref D)] nt) ∈ r4)
    (h1 : m (Str.ofString "_law_deck_here") = some (.ref d)) (h2 : m (Str.ofString "_law_table") = some (.ref ta))
    (h5 : ∀ q ∈ r4, q.1 ≠ d) (h6 : ∀ q ∈ r4, q.1 ≠ l) (h7 : ∀ q ∈ r4, q.1 ≠ R) (h8 : ∀ q ∈ r4, q.1 ≠ D)
    (hI' : IntsAre vals cells) (hc : CellsOk cells) (hm0 : 0 ≤ mixed) (hm1 : mixed < 2147483647) (hD : oD.IsDictOf (PySem.strKind prog w) [])
    (step : ∀ (I : Addr) (i : Nat) (o : Obj) (m' : Str → Option Value) mixed t n1 vals cells n2 rows nR es oD f sy tl tt h tk, IntsAre vals cells → CellsOk cells → 0 ≤ mixed → mixed < 2147483647 → TabSt w.params sy f rows es → (∀ q ∈ sy, q ∈ tl) → oD.IsDictOf (PySem.strKind prog w) es →
      (ta, instObj 128 td) ∈ tl → (td, dictOf [fld w.params (Str.ofString "rows") t1 (.ref R), fld w.params (Str.ofString "by_text") t2 (.ref D)] nt) ∈ tl →
      (∀ q ∈ tl, q.1 ≠ d) → (∀ q ∈ tl, q.1 ≠ l) → (∀ q ∈ tl, q.1 ≠ R) → (∀ q ∈ tl, q.1 ≠ D) → @Ne Nat d I → @Ne Nat l I → @Ne Nat R I → @Ne Nat D I → (∀ q ∈ tl, q.1 ≠ I) →
      Fr h₀ L h (fun y => if y = x then some (.int (0 + (i : Nat)) tt) else if y = Str.ofString "_law_deck_here" then some (.ref d) else if y = Str.ofString "_law_table" then some (.ref ta) else m' y) →
      News h₀ L h ((I, o) :: (d, listOf [Value.ref l, Value.int mixed t].toArray n1) :: (l, listOf vals.toArray n2) :: (R, listOf rows.toArray nR) :: (D, oD) :: tl) →
      wpAny (model prog w) A (execs body env) (UnrPost h₀ L { s with heap := h, toks := tk } I o (fun m' news' => LawJ prog w d l ta td R D t1 t2 nt (i + 1) m' news') Q) E { s with heap := h, toks := tk })
    (fin : ∀ m nx h tk, Fr h₀ L h m → News h₀ L h nx → Q .next { s with heap := h, toks := tk }) :
    wpAny (model prog w) A (pyIter (.ref r)) (fun it s₂ => LoopAtV prog w A h₀ env x body Q E it s₂) E s := by
  subst hL
  refine iter_rangeUnr (n := v.toNat) hA hR (law_small hv) (law_size hv) F (news4 p1 p2 p3 p4 N) fun I hI => ?_
  refine rangeRest_ind (LawJ prog w d l ta td R D t1 t2 nt) ?_ (fun m nx _ h tk F N => fin m nx h tk F N) _ 0 _ _ (Nat.zero_add _) ?_ fun p hp => Nat.ne_of_lt (hI p hp)
  · rintro i m₁ nx hi ⟨m', mixed, t, n1, vals, cells, n2, rows, nR, es, oD, f, sy, tl, rfl, rfl, g1, g2, g3, g4, g5, g6, gI, gc, gm0, gm1, gt, gs, gD⟩ ho tt h tk F N
    exact step I i _ m' mixed t n1 vals cells n2 rows nR es oD f sy tl tt h tk gI gc gm0 gm1 gt gs gD g1 g2 g3 g4 g5 g6 (ho _ (.head _)) (ho _ (.tail _ (.head _))) (ho _ (.tail _ (.tail _ (.head _)))) (ho _ (.tail _ (.tail _ (.tail _ (.head _))))) (fun q hq => ho q (.tail _ (.tail _ (.tail _ (.tail _ hq))))) F N
  · exact lawJ_mk (sy := []) (f := none) h1 h2 hta' htd' h5 h6 h7 h8 hI' hc hm0 hm1 .nil (fun _ h => nomatch h) hD
theorem law_end {h₀ h' : Heap} {L I : Addr} {o : Obj} {s₁ : Shared} {m' : Str → Option Value} {nw r0 r1 r2 r3 r4 sy : List (Addr × Obj)} {i : Nat} {d l ta td R D : Addr} {t1 t2 : Tok} {nt n1 n2 nR : Nat} {mixed : Int} {t : Tok} {vals : List Value} {cells : List Int} {oD : Obj} {rows : List Value} {es : List (Str × Value)} {f : Option Int} {tk : Nat}
    (F : Fr h₀ L h' m') (N : News h₀ L h' nw) (pI : Pick (I, o) nw r0) (p1 : Pick (d, listOf [Value.ref l, Value.int mixed t].toArray n1) r0 r1) (p2 : Pick (l, listOf vals.toArray n2) r1 r2) (p3 : Pick (R, listOf rows.toArray nR) r2 r3) (p4 : Pick (D, oD) r3 r4)
    (h1 : m' (Str.ofString "_law_deck_here") = some (.ref d)) (h2 : m' (Str.ofString "_law_table") = some (.ref ta))
    (hta : (ta, instObj 128 td) ∈ r4) (htd : (td, dictOf [fld w.params (Str.ofString "rows") t1 (.ref R), fld w.params (Str.ofString "by_text") t2 (.ref D)] nt) ∈ r4)
    (h5 : ∀ q ∈ r4, q.1 ≠ d) (h6 : ∀ q ∈ r4, q.1 ≠ l) (h7 : ∀ q ∈ r4, q.1 ≠ R) (h8 : ∀ q ∈ r4, q.1 ≠ D) (h9 : ∀ q ∈ r4, q.1 ≠ I) (e1 : @Ne Nat d I) (e2 : @Ne Nat l I) (e3 : @Ne Nat R I) (e4 : @Ne Nat D I)
    (hI : IntsAre vals cells) (hc : CellsOk cells) (hm0 : 0 ≤ mixed) (hm1 : mixed < 2147483647) (ht : TabSt w.params sy f rows es) (hs : ∀ q ∈ sy, q ∈ r4) (hD : oD.IsDictOf (PySem.strKind prog w) es) :
    UnrEnd h₀ L s₁ I o (fun m' news' => LawJ prog w d l ta td R D t1 t2 nt i m' news') { s₁ with heap := h', toks := tk } :=
  ⟨h', tk, m', _, rfl, F, news_sub N (fun p hp => pI.mem p (by
    rcases List.mem_cons.mp hp with rfl | hp
    · exact .head _
    · refine .tail _ (p1.mem p ?_)
      rcases List.mem_cons.mp hp with rfl | hp
      · exact .head _
      · refine .tail _ (p2.mem p ?_)
        rcases List.mem_cons.mp hp with rfl | hp
        · exact .head _
        · refine .tail _ (p3.mem p ?_)
          rcases List.mem_cons.mp hp with rfl | hp
          · exact .head _
          · exact .tail _ (p4.mem p hp))),
    List.forall_mem_cons.mpr ⟨e1, List.forall_mem_cons.mpr ⟨e2, List.forall_mem_cons.mpr ⟨e3, List.forall_mem_cons.mpr ⟨e4, h9⟩⟩⟩⟩,
    lawJ_mk h1 h2 hta htd h5 h6 h7 h8 hI hc hm0 hm1 ht hs hD⟩
end
def pw : Pic → Str
  | .num _ _ => Str.ofString "number"
  | .truth _ => Str.ofString "truth"
  | .char _ => Str.ofString "char"
  | .sym _ => Str.ofString "symbol"
  | .str _ => Str.ofString "string"
  | .empty => Str.ofString "empty"
  | .nothing => Str.ofString "nothing"
  | .vec _ => Str.ofString "vector"
  | .pair _ _ => Str.ofString "pair"
theorem dat_head {news : List (Addr × Obj)} {v : Value} {p : Pic} (h : DatIn news v p.dat) : ∃ a n t more, v = .ref a ∧ (a, tupOf (.str (pw p) t :: more) n) ∈ news := by
  cases p with
  | num t b => obtain ⟨_, _, _, _, _, e, hm⟩ := in_num h; exact ⟨_, _, _, _, e, hm⟩
  | truth i => obtain ⟨_, _, _, _, e, hm⟩ := in_truth h; exact ⟨_, _, _, _, e, hm⟩
  | char i => obtain ⟨_, _, _, _, e, hm⟩ := in_char h; exact ⟨_, _, _, _, e, hm⟩
  | sym i => obtain ⟨_, _, _, _, e, hm⟩ := in_sym h; exact ⟨_, _, _, _, e, hm⟩
  | str i => obtain ⟨_, _, _, _, e, hm⟩ := in_str h; exact ⟨_, _, _, _, e, hm⟩
  | empty => obtain ⟨_, _, _, e, hm⟩ := in_empty h; exact ⟨_, _, _, _, e, hm⟩
  | nothing => obtain ⟨_, _, _, e, hm⟩ := in_nothing h; exact ⟨_, _, _, _, e, hm⟩
  | vec ps => obtain ⟨_, _, _, _, _, _, e, hm, _⟩ := in_vec h; exact ⟨_, _, _, _, e, hm⟩
  | pair p q => obtain ⟨_, _, _, _, _, e, hm, _⟩ := in_pair h; exact ⟨_, _, _, _, e, hm⟩
theorem atom_pw : ∀ p : Pic, (!([Str.ofString "pair", Str.ofString "vector", Str.ofString "string"].any (· == pw p))) = isAtom p
  | .num _ _ | .truth _ | .char _ | .sym _ | .str _ | .empty | .nothing | .vec _ | .pair _ _ => by kernel_rfl!
theorem tab_bit {P : Params} {news : List (Addr × Obj)} {f : Option Int} {rows : List Value} {es : List (Str × Value)} (h : TabSt P news f rows es) : ∀ j, f = some j → BitOk j := by
  cases h with
  | nil => exact fun _ e => nomatch e
  | one a b c => exact fun _ e => Option.some.inj e ▸ a
  | two a b c d e g h => exact fun _ e => Option.some.inj e ▸ a
open Classical in
theorem dec_refl (p : Pic) : decide (p = p) = true := decide_eq_true rfl
open Classical in
theorem dec_symm (p q : Pic) : decide (q = p) = decide (p = q) := by
  by_cases h : p = q
  · rw [decide_eq_true h, decide_eq_true h.symm]
  · rw [decide_eq_false h, decide_eq_false (fun e => h e.symm)]
theorem deep_eq {v : Int} (h : v = 2 ∨ v = 3) : v = (v.toNat : Int) := by omega
theorem deep_ok {v : Int} {p : Pic} (h : v = 2 ∨ v = 3) (o : Ok 3 v.toNat p) : Ok 3 3 p := o.mono (Nat.le_refl _) (by omega)
theorem deep_room {v : Int} (h : v = 2 ∨ v = 3) : callerA.depth + 1 + (v.toNat + 4) < recursionLimit := by rw [depth_caller, show recursionLimit = 1000 from rfl]; omega
theorem deep_units {v : Int} (h : v = 2 ∨ v = 3) : callerA.units + 3 + (20 * v.toNat + 300) < cLine := by rw [units_caller, show cLine = 9900 from rfl]; omega
theorem law_room {n : Nat} (h : n < 690) : callerA.depth + 1 + n < recursionLimit := by rw [depth_caller, show recursionLimit = 1000 from rfl]; omega
theorem law_units {n : Nat} (h : n < 9000) : callerA.units + 3 + n < cLine := by rw [units_caller, show cLine = 9900 from rfl]; omega
theorem allgt_ne {l : List (Addr × Obj)} {x : Addr} (h : ∀ q ∈ l, @LT.lt Nat _ x q.1) : ∀ q ∈ l, q.1 ≠ x := fun q hq => Nat.ne_of_gt (h q hq)
def Hold (p : Prop) : Prop := p
theorem hold {p : Prop} (h : Hold p) : p := h
theorem unhold {p : Prop} (h : p) : Hold p := h
theorem dat_tup {A B : List (Addr × Obj)} (hs : TupSub A B) : ∀ {w n : Nat} {p : Pic} {v : Value}, Ok w n p → DatIn A v p.dat → DatIn B v p.dat := by
  intro w n p v hok
  induction hok generalizing v with
  | num _ => intro h; obtain ⟨_, _, _, _, _, rfl, hm⟩ := in_num h; exact mk_num (hs _ _ _ hm)
  | truth _ => intro h; obtain ⟨_, _, _, _, rfl, hm⟩ := in_truth h; exact mk_truth (hs _ _ _ hm)
  | char _ => intro h; obtain ⟨_, _, _, _, rfl, hm⟩ := in_char h; exact mk_char (hs _ _ _ hm)
  | sym _ => intro h; obtain ⟨_, _, _, _, rfl, hm⟩ := in_sym h; exact mk_sym (hs _ _ _ hm)
  | str _ _ => intro h; obtain ⟨_, _, _, _, rfl, hm⟩ := in_str h; exact mk_str (hs _ _ _ hm)
  | empty => intro h; obtain ⟨_, _, _, rfl, hm⟩ := in_empty h; exact mk_empty (hs _ _ _ hm)
  | nothing => intro h; obtain ⟨_, _, _, rfl, hm⟩ := in_nothing h; exact mk_nothing (hs _ _ _ hm)
  | @vec n ps hl hp ih =>
    intro h
    obtain ⟨_, _, _, _, _, vs, rfl, hm, hb, hv⟩ := in_vec h
    refine mk_vec (hs _ _ _ hm) (hs _ _ _ hb) ?_
    clear hm hb hl h
    induction ps generalizing vs with
    | nil => cases hv; exact .nil
    | cons q qs ih2 =>
      cases hv with
      | cons h1 h2 => exact .cons (ih q (.head _) h1) (ih2 (fun p hp' => hp p (.tail _ hp')) (fun p hp' => ih p (.tail _ hp')) _ h2)
  | pair _ _ ih1 ih2 =>
    intro h
    obtain ⟨_, _, _, _, _, rfl, hm, h1, h2⟩ := in_pair h
    exact mk_pair (hs _ _ _ hm) (ih1 h1) (ih2 h2)
theorem th_up {P : Params} {f f' : Option Int} {sy : List (Addr × Obj)} {v : Value} {p : Pic} (tl : List (Addr × Obj)) (hu : Up f f') (h : Th P f sy v p) : Th P f' (tl ++ sy) v p := Th.mono hu (fun _ hq => mem_r hq) h
theorem len_le {n : Nat} (h : ¬ ((63 : Nat) : Int) < (n : Int)) : n ≤ 63 := by omega
section
variable {Q : Value → Shared → Prop} {prog : Program} {w : World} {A : Around} {E : Value → Shared → Prop} {s : Shared} {env : Env} {h₀ : Heap} {L : Addr} {news : List (Addr × Obj)}
theorem ite_consts {b : Bool} {c1 c2 : Int} {k1 k2 : Nat} {p1 p2 : Pos} (h : ∀ v : Int, (v = c1 ∨ v = c2) → Q (.int v s.toks) { s with toks := s.toks + 1 }) :
    if b = true then wpAny (model prog w) A (eval (.Constant (.int c1) k1 p1) env) Q E s else wpAny (model prog w) A (eval (.Constant (.int c2) k2 p2) env) Q E s := by
  cases b
  · exact wpAny_Constant_int (h _ (.inr rfl))
  · exact wpAny_Constant_int (h _ (.inl rfl))
theorem eq_any {c g : Addr} {vs ws : List Value} {n n' : Nat} {ns ms : List Int} (N : News h₀ L s.heap news) (hc : (c, listOf vs.toArray n) ∈ news) (hi : IntsAre vs ns) (hg : (g, listOf ws.toArray n') ∈ news) (hi' : IntsAre ws ms) (hu : A.units + 64 < cLine)
    (h : ∀ b : Bool, Q (.bool b) s) : wpAny (model prog w) A (compareOp .Eq (.ref c) (.ref g)) Q E s :=
  eq_intsK (News.isList N hc) hi (News.isList N hg) hi' hu (h _)
theorem ne_told {a b : Addr} {n n' : Nat} {x : Bool} (N : News h₀ L s.heap news) (ha : (a, listOf #[.bool x, .bool x, .bool true, .bool true] n) ∈ news) (hb : (b, listOf #[.bool x, .bool x, .bool true, .bool true] n') ∈ news) (hu : A.units + 64 < cLine)
    (h : Q (.bool false) s) : wpAny (model prog w) A (compareOp .NotEq (.ref a) (.ref b)) Q E s :=
  ne_dataH (reads_list_at (N _ ha).1 rfl rfl (.cons (.bool _) (.cons (.bool _) (.cons (.bool _) (.cons (.bool _) .nil))))) (reads_list_at (N _ hb).1 rfl rfl (.cons (.bool _) (.cons (.bool _) (.cons (.bool _) (.cons (.bool _) .nil))))) (by cases x <;> rfl) (by cases x <;> rfl) hu (by cases x <;> exact h)
theorem ne_bool_eq {c d : Bool} (e : c = d) (h : Q (.bool false) s) : wpAny (model prog w) A (compareOp .NotEq (.bool c) (.bool d)) Q E s :=
  PyProof.Rows.ne_bool (by rw [e]; cases d <;> exact h)
theorem notin_atom {t : Addr} {items : Array Value} {p : Pic} {u : Tok} (ht : IsTup s.heap t items) (hi : StrsAre items.toList [Str.ofString "pair", Str.ofString "vector", Str.ofString "string"])
    (h : Q (.bool (isAtom p)) s) : wpAny (model prog w) A (compareOp .NotIn (.str (pw p) u) (.ref t)) Q E s :=
  notin_tuple_strs ht hi (by rw [atom_pw]; exact h)
end
end
section
local macro_rules | `(tactic| walk_at $s:str) => `(tactic| k_extra $s)
local macro_rules | `(tactic| k_all) => `(tactic| first | assumption | ((with_reducible refine List.forall_mem_append.mpr ⟨?ka, ?kb⟩); (case ka => k_all); (case kb => k_all)))
local macro_rules | `(tactic| k_mem) => `(tactic| ((repeat' (first | (with_reducible exact mem_h) | (with_reducible refine mem_t ?_) | (with_reducible refine mem_r ?_) | (with_reducible assumption))); done))
local macro_rules | `(tactic| kct_strs) => `(tactic| first | (with_reducible assumption) | exact mem_h | ((with_reducible refine mem_t ?_); kct_strs) | ((with_reducible refine mem_l ?_); kct_strs) | ((with_reducible refine mem_r ?_); kct_strs))
set_option hygiene false in
local macro_rules | `(tactic| kp_flats) => `(tactic| first | exact List.forall_mem_nil _ | ((with_reducible refine List.forall_mem_cons.mpr ⟨?_, ?_⟩); (focus kct_strs); kp_flats) | ((with_reducible refine List.forall_mem_append.mpr ⟨?_, ?_⟩); (focus kp_flats); kp_flats) | (intro e9 he9; first | kct_strs | (have he8 := hsub _ he9; kct_strs)))
set_option maxHeartbeats 8000000 in
theorem law0 : PySem.Challenge.rw_on0294_01.Holds := hd (by
  w_top off
  k_with_none
  (k_with "newList" => (k_here; k_dflt (refine' newList_K ?k1 ?k2 ?_; (case k1 => k_asm); (case k2 => k_asm); k_whole); intro l' h' F' N' l1; (try k_lt l1); (iterate 40 (try (obtain ⟨_, l1⟩ := l1))); (try k_sweep)))
  (k_with "newTuple" => (k_here; k_dflt (refine' kup_newTuple ?F ?N ?_ ?z; (case F => k_asm); (case N => k_asm); (case z => kmk_size)); intro D' h' F' N' l1; (try k_lt l1); (iterate 40 (try (obtain ⟨_, l1⟩ := l1))); (try k_sweep)))
  (k_with "call ref" => (
  k_here
  (with_reducible show wpAny _ _ (call (Value.ref 444) _) _ _ _)
  skip
  skip
  first
  | (k_dflt (
  refine' deck_call ?kB ?kF ?kX ?kN ?kT ?kk ?kd ?ku ?hsc ?hsi ?hsl ?_
  (case kB => k_asm)
  (case kF => k_asm)
  (case kX => k_asm)
  (case kN => k_asm)
  (case kT => k_asm)
  (case kk => first | exact rfl | assumption)
  (case kd => exact law_room (by decide))
  (case ku => exact law_units (by decide))
  (case hsc => with_reducible assumption)
  (case hsi => with_reducible assumption)
  (case hsl => exact len_le (by with_reducible assumption))
  k_whole
  intro d9 l9 mixed9 t9 n19 vals9 n29 cells9 h9 tk9 hI9 hc9 hm09 hm19 hdl9 F9 N9
  (try k_sweep)
  (try dsimp only)
  (try k_fold)))
  | (refine hold ?_)))
  (k_with "ite" => ((with_reducible refine ite_consts ?_); intro v9 hv9))
  (k_with "compareOp Eq ref ref" => (k_here; k_dflt (refine' eq_any ?N ?c ?i ?g .nil ?u ?_; (case N => k_asm); (case c => ((repeat' (first | (with_reducible exact mem_h) | (with_reducible refine mem_t ?_) | (with_reducible assumption) | (with_reducible exact mem_l (by with_reducible assumption)) | (with_reducible refine mem_r ?_))); done)); (case i => with_reducible assumption); (case g => exact mem_h); (case u => exact law_units (by decide)); intro b9)))
  (k_with "call ref" => (
  k_here
  (with_reducible show wpAny _ _ (call (Value.ref 463) _) _ _ _)
  skip
  skip
  first
  | (k_dflt (
  refine' picture_all _ ?kB ?kF ?kX ?kN ?p1 ?p2 ?kT ?kk ?kd ?ku ?dl ?od ?ol ?I ?c ?m0 ?m1 (deep_eq hv9) ?_
  (case kB => k_asm)
  (case kF => k_asm)
  (case kX => k_asm)
  (case kN => k_asm)
  (case p1 => ((repeat' (first | (with_reducible exact Pick.head) | (with_reducible refine' Pick.tail ?_) | (with_reducible refine' Pick.app ?_))); done))
  (case p2 => ((repeat' (first | (with_reducible exact Pick.head) | (with_reducible refine' Pick.tail ?_) | (with_reducible refine' Pick.app ?_))); done))
  (case kT => k_asm)
  (case kk => first | exact rfl | assumption)
  (case kd => exact deep_room hv9)
  (case ku => exact deep_units hv9)
  (case dl => exact hdl9)
  (case od => (repeat' (first | (with_reducible assumption) | exact List.forall_mem_nil _ | (with_reducible refine List.forall_mem_cons.mpr ⟨?_, ?_⟩) | (with_reducible refine List.forall_mem_append.mpr ⟨?_, ?_⟩) | exact Over.ne (by with_reducible assumption) (by ((repeat' (first | (with_reducible exact mem_h) | (with_reducible refine mem_t ?_) | (with_reducible assumption) | (with_reducible exact mem_l (by with_reducible assumption)) | (with_reducible refine mem_r ?_))); done)) | exact gt_ne (by with_reducible assumption) | exact Nat.ne_of_lt (by with_reducible assumption) | exact Ne.symm (by with_reducible assumption) | exact allgt_ne (by with_reducible assumption) | exact all_ne (by with_reducible assumption) (by ((repeat' (first | (with_reducible exact mem_h) | (with_reducible refine mem_t ?_) | (with_reducible assumption) | (with_reducible exact mem_l (by with_reducible assumption)) | (with_reducible refine mem_r ?_))); done)) | k_ne | assumption)))
  (case ol => (repeat' (first | (with_reducible assumption) | exact List.forall_mem_nil _ | (with_reducible refine List.forall_mem_cons.mpr ⟨?_, ?_⟩) | (with_reducible refine List.forall_mem_append.mpr ⟨?_, ?_⟩) | exact Over.ne (by with_reducible assumption) (by ((repeat' (first | (with_reducible exact mem_h) | (with_reducible refine mem_t ?_) | (with_reducible assumption) | (with_reducible exact mem_l (by with_reducible assumption)) | (with_reducible refine mem_r ?_))); done)) | exact gt_ne (by with_reducible assumption) | exact Nat.ne_of_lt (by with_reducible assumption) | exact Ne.symm (by with_reducible assumption) | exact allgt_ne (by with_reducible assumption) | exact all_ne (by with_reducible assumption) (by ((repeat' (first | (with_reducible exact mem_h) | (with_reducible refine mem_t ?_) | (with_reducible assumption) | (with_reducible exact mem_l (by with_reducible assumption)) | (with_reducible refine mem_r ?_))); done)) | k_ne | assumption)))
  (case I => with_reducible assumption)
  (case c => with_reducible assumption)
  (case m0 => with_reducible assumption)
  (case m1 => with_reducible assumption)
  k_whole
  intro rA9 picA9 mixed9 t9 n9 vals9 cells9 n9' tlA9 h9 tk9 hokA9 hdatA9 hovA9 hdA9 hlA9 hI9 hc9 hm09 hm19 F9 N9
  replace hokA9 := deep_ok hv9 hokA9
  obtain ⟨paA9, nA9, tA9, moreA9, rfl, hmA9⟩ := dat_head hdatA9
  (try k_sweep)
  (try dsimp only)
  (try k_fold)))
  | (refine hold ?_)))
  (k_with "call ref" => (
  k_here
  (with_reducible show wpAny _ _ (call (Value.ref 470) _) _ _ _)
  skip
  skip
  first
  | (k_dflt (
  refine' turned_all 3 (by decide) ?kB ?kF ?kX ?kN ?p1 ?p2 ?kT ?kk ?kd ?ku ?dl ?od ?ol ?I ?c ?m0 ?m1 (DatIn.mono ?s9 hdatA9) hokA9 ?_
  (case kB => k_asm)
  (case kF => k_asm)
  (case kX => k_asm)
  (case kN => k_asm)
  (case p1 => ((repeat' (first | (with_reducible exact Pick.head) | (with_reducible refine' Pick.tail ?_) | (with_reducible refine' Pick.app ?_))); done))
  (case p2 => ((repeat' (first | (with_reducible exact Pick.head) | (with_reducible refine' Pick.tail ?_) | (with_reducible refine' Pick.app ?_))); done))
  (case kT => k_asm)
  (case kk => first | exact rfl | assumption)
  (case kd => exact law_room (by decide))
  (case ku => exact law_units (by decide))
  (case dl => exact hdl9)
  (case od => (repeat' (first | (with_reducible assumption) | exact List.forall_mem_nil _ | (with_reducible refine List.forall_mem_cons.mpr ⟨?_, ?_⟩) | (with_reducible refine List.forall_mem_append.mpr ⟨?_, ?_⟩) | exact Over.ne (by with_reducible assumption) (by ((repeat' (first | (with_reducible exact mem_h) | (with_reducible refine mem_t ?_) | (with_reducible assumption) | (with_reducible exact mem_l (by with_reducible assumption)) | (with_reducible refine mem_r ?_))); done)) | exact gt_ne (by with_reducible assumption) | exact Nat.ne_of_lt (by with_reducible assumption) | exact Ne.symm (by with_reducible assumption) | exact allgt_ne (by with_reducible assumption) | exact all_ne (by with_reducible assumption) (by ((repeat' (first | (with_reducible exact mem_h) | (with_reducible refine mem_t ?_) | (with_reducible assumption) | (with_reducible exact mem_l (by with_reducible assumption)) | (with_reducible refine mem_r ?_))); done)) | k_ne | assumption)))
  (case ol => (repeat' (first | (with_reducible assumption) | exact List.forall_mem_nil _ | (with_reducible refine List.forall_mem_cons.mpr ⟨?_, ?_⟩) | (with_reducible refine List.forall_mem_append.mpr ⟨?_, ?_⟩) | exact Over.ne (by with_reducible assumption) (by ((repeat' (first | (with_reducible exact mem_h) | (with_reducible refine mem_t ?_) | (with_reducible assumption) | (with_reducible exact mem_l (by with_reducible assumption)) | (with_reducible refine mem_r ?_))); done)) | exact gt_ne (by with_reducible assumption) | exact Nat.ne_of_lt (by with_reducible assumption) | exact Ne.symm (by with_reducible assumption) | exact allgt_ne (by with_reducible assumption) | exact all_ne (by with_reducible assumption) (by ((repeat' (first | (with_reducible exact mem_h) | (with_reducible refine mem_t ?_) | (with_reducible assumption) | (with_reducible exact mem_l (by with_reducible assumption)) | (with_reducible refine mem_r ?_))); done)) | k_ne | assumption)))
  (case I => with_reducible assumption)
  (case c => with_reducible assumption)
  (case m0 => with_reducible assumption)
  (case m1 => with_reducible assumption)
  (case s9 => ((repeat' (first | exact List.forall_mem_nil _ | (with_reducible refine List.forall_mem_cons.mpr ⟨?_, ?_⟩) | (with_reducible refine List.forall_mem_append.mpr ⟨?_, ?_⟩) | (with_reducible exact mem_h) | (with_reducible refine mem_t ?_) | (with_reducible exact mem_l (by with_reducible assumption)) | (with_reducible refine mem_r ?_) | (with_reducible assumption) | (intro e9 he9; first | ((repeat' (first | (with_reducible exact he9) | (with_reducible exact mem_l he9) | (with_reducible refine mem_t ?_) | (with_reducible refine mem_r ?_))); done) | (have he8 := hsubT9 _ he9; ((repeat' (first | (with_reducible exact he8) | (with_reducible exact mem_l he8) | (with_reducible refine mem_t ?_) | (with_reducible refine mem_r ?_))); done))))); done))
  k_whole
  intro rB9 picB9 mixed9 t9 n9 vals9 cells9 n9' tlB9 h9 tk9 hokB9 hdatB9 hovB9 hdB9 hlB9 hI9 hc9 hm09 hm19 F9 N9
  obtain ⟨paB9, nB9, tB9, moreB9, rfl, hmB9⟩ := dat_head hdatB9
  (try k_sweep)
  (try dsimp only)
  (try k_fold)))
  | (refine hold ?_)))
  (k_with "call ref" => (
  k_here
  (with_reducible show wpAny _ _ (call (Value.ref 475) _) _ _ _)
  skip
  skip
  first
  | (k_dflt (
  (iterate 40 (try ((with_reducible rename _ ∧ _ => hh9); obtain ⟨_, _⟩ := hh9)))
  refine' datum_all 4 ?kB ?kF ?kX ?kN ?p1 ?p2 ?kT ?kk ?kd ?ku ?dl ?od ?ol ?ta ?td htabT9 ?su hisT9 lo9 (DatIn.mono ?s9 hdatA9) (Ok.mono (by decide) hokA9 (by decide)) ?_
  (case kB => k_asm)
  (case kF => k_asm)
  (case kX => k_asm)
  (case kN => k_asm)
  (case p1 => ((repeat' (first | (with_reducible exact Pick.head) | (with_reducible refine' Pick.tail ?_) | (with_reducible refine' Pick.app ?_))); done))
  (case p2 => ((repeat' (first | (with_reducible exact Pick.head) | (with_reducible refine' Pick.tail ?_) | (with_reducible refine' Pick.app ?_))); done))
  (case kT => k_asm)
  (case kk => first | exact rfl | assumption)
  (case kd => exact law_room (by decide))
  (case ku => exact law_units (by decide))
  (case dl => first | with_reducible assumption | exact Ne.symm (by with_reducible assumption) | k_ne)
  (case od => (repeat' (first | (with_reducible assumption) | exact List.forall_mem_nil _ | (with_reducible refine List.forall_mem_cons.mpr ⟨?_, ?_⟩) | (with_reducible refine List.forall_mem_append.mpr ⟨?_, ?_⟩) | exact Over.ne (by with_reducible assumption) (by ((repeat' (first | (with_reducible exact mem_h) | (with_reducible refine mem_t ?_) | (with_reducible assumption) | (with_reducible exact mem_l (by with_reducible assumption)) | (with_reducible refine mem_r ?_))); done)) | exact gt_ne (by with_reducible assumption) | exact Nat.ne_of_lt (by with_reducible assumption) | exact Ne.symm (by with_reducible assumption) | exact allgt_ne (by with_reducible assumption) | exact all_ne (by with_reducible assumption) (by ((repeat' (first | (with_reducible exact mem_h) | (with_reducible refine mem_t ?_) | (with_reducible assumption) | (with_reducible exact mem_l (by with_reducible assumption)) | (with_reducible refine mem_r ?_))); done)) | k_ne | assumption)))
  (case ol => (repeat' (first | (with_reducible assumption) | exact List.forall_mem_nil _ | (with_reducible refine List.forall_mem_cons.mpr ⟨?_, ?_⟩) | (with_reducible refine List.forall_mem_append.mpr ⟨?_, ?_⟩) | exact Over.ne (by with_reducible assumption) (by ((repeat' (first | (with_reducible exact mem_h) | (with_reducible refine mem_t ?_) | (with_reducible assumption) | (with_reducible exact mem_l (by with_reducible assumption)) | (with_reducible refine mem_r ?_))); done)) | exact gt_ne (by with_reducible assumption) | exact Nat.ne_of_lt (by with_reducible assumption) | exact Ne.symm (by with_reducible assumption) | exact allgt_ne (by with_reducible assumption) | exact all_ne (by with_reducible assumption) (by ((repeat' (first | (with_reducible exact mem_h) | (with_reducible refine mem_t ?_) | (with_reducible assumption) | (with_reducible exact mem_l (by with_reducible assumption)) | (with_reducible refine mem_r ?_))); done)) | k_ne | assumption)))
  (case ta => ((repeat' (first | (with_reducible exact mem_h) | (with_reducible refine mem_t ?_) | (with_reducible assumption) | (with_reducible exact mem_l (by with_reducible assumption)) | (with_reducible refine mem_r ?_))); done))
  (case td => ((repeat' (first | (with_reducible exact mem_h) | (with_reducible refine mem_t ?_) | (with_reducible assumption) | (with_reducible exact mem_l (by with_reducible assumption)) | (with_reducible refine mem_r ?_))); done))
  (case su => ((repeat' (first | exact List.forall_mem_nil _ | (with_reducible refine List.forall_mem_cons.mpr ⟨?_, ?_⟩) | (with_reducible refine List.forall_mem_append.mpr ⟨?_, ?_⟩) | (with_reducible exact mem_h) | (with_reducible refine mem_t ?_) | (with_reducible exact mem_l (by with_reducible assumption)) | (with_reducible refine mem_r ?_) | (with_reducible assumption) | (intro e9 he9; first | ((repeat' (first | (with_reducible exact he9) | (with_reducible exact mem_l he9) | (with_reducible refine mem_t ?_) | (with_reducible refine mem_r ?_))); done) | (have he8 := hsubT9 _ he9; ((repeat' (first | (with_reducible exact he8) | (with_reducible exact mem_l he8) | (with_reducible refine mem_t ?_) | (with_reducible refine mem_r ?_))); done))))); done))
  (case s9 => ((repeat' (first | exact List.forall_mem_nil _ | (with_reducible refine List.forall_mem_cons.mpr ⟨?_, ?_⟩) | (with_reducible refine List.forall_mem_append.mpr ⟨?_, ?_⟩) | (with_reducible exact mem_h) | (with_reducible refine mem_t ?_) | (with_reducible exact mem_l (by with_reducible assumption)) | (with_reducible refine mem_r ?_) | (with_reducible assumption) | (intro e9 he9; first | ((repeat' (first | (with_reducible exact he9) | (with_reducible exact mem_l he9) | (with_reducible refine mem_t ?_) | (with_reducible refine mem_r ?_))); done) | (have he8 := hsubT9 _ he9; ((repeat' (first | (with_reducible exact he8) | (with_reducible exact mem_l he8) | (with_reducible refine mem_t ?_) | (with_reducible refine mem_r ?_))); done))))); done))
  k_whole
  intro rL9 fT9 rowsT9 nRT9 esT9 oDT9 tlL9 h9 tk9 hupL9 hthL9 htabT9 hisT9 hovL9 hRL9 hDL9 F9 N9
  have hhdL9 := hthL9.handed
  skip
  (try k_sweep)
  (try dsimp only)
  (try k_fold)))
  | (refine hold ?_)))
  (k_with "call ref" => (
  k_here
  (with_reducible show wpAny _ _ (call (Value.ref 475) _) _ _ _)
  (have hk9 := hthL9); clear hk9
  skip
  first
  | (k_dflt (
  (iterate 40 (try ((with_reducible rename _ ∧ _ => hh9); obtain ⟨_, _⟩ := hh9)))
  refine' datum_all 4 ?kB ?kF ?kX ?kN ?p1 ?p2 ?kT ?kk ?kd ?ku ?dl ?od ?ol ?ta ?td htabT9 ?su hisT9 lo9 (dat_tup ?s9 hokB9 hdatB9) hokB9 ?_
  (case kB => k_asm)
  (case kF => k_asm)
  (case kX => k_asm)
  (case kN => k_asm)
  (case p1 => ((repeat' (first | (with_reducible exact Pick.head) | (with_reducible refine' Pick.tail ?_) | (with_reducible refine' Pick.app ?_))); done))
  (case p2 => ((repeat' (first | (with_reducible exact Pick.head) | (with_reducible refine' Pick.tail ?_) | (with_reducible refine' Pick.app ?_))); done))
  (case kT => k_asm)
  (case kk => first | exact rfl | assumption)
  (case kd => exact law_room (by decide))
  (case ku => exact law_units (by decide))
  (case dl => first | with_reducible assumption | exact Ne.symm (by with_reducible assumption) | k_ne)
  (case od => (repeat' (first | (with_reducible assumption) | exact List.forall_mem_nil _ | (with_reducible refine List.forall_mem_cons.mpr ⟨?_, ?_⟩) | (with_reducible refine List.forall_mem_append.mpr ⟨?_, ?_⟩) | exact Over.ne (by with_reducible assumption) (by ((repeat' (first | (with_reducible exact mem_h) | (with_reducible refine mem_t ?_) | (with_reducible assumption) | (with_reducible exact mem_l (by with_reducible assumption)) | (with_reducible refine mem_r ?_))); done)) | exact gt_ne (by with_reducible assumption) | exact Nat.ne_of_lt (by with_reducible assumption) | exact Ne.symm (by with_reducible assumption) | exact allgt_ne (by with_reducible assumption) | exact all_ne (by with_reducible assumption) (by ((repeat' (first | (with_reducible exact mem_h) | (with_reducible refine mem_t ?_) | (with_reducible assumption) | (with_reducible exact mem_l (by with_reducible assumption)) | (with_reducible refine mem_r ?_))); done)) | k_ne | assumption)))
  (case ol => (repeat' (first | (with_reducible assumption) | exact List.forall_mem_nil _ | (with_reducible refine List.forall_mem_cons.mpr ⟨?_, ?_⟩) | (with_reducible refine List.forall_mem_append.mpr ⟨?_, ?_⟩) | exact Over.ne (by with_reducible assumption) (by ((repeat' (first | (with_reducible exact mem_h) | (with_reducible refine mem_t ?_) | (with_reducible assumption) | (with_reducible exact mem_l (by with_reducible assumption)) | (with_reducible refine mem_r ?_))); done)) | exact gt_ne (by with_reducible assumption) | exact Nat.ne_of_lt (by with_reducible assumption) | exact Ne.symm (by with_reducible assumption) | exact allgt_ne (by with_reducible assumption) | exact all_ne (by with_reducible assumption) (by ((repeat' (first | (with_reducible exact mem_h) | (with_reducible refine mem_t ?_) | (with_reducible assumption) | (with_reducible exact mem_l (by with_reducible assumption)) | (with_reducible refine mem_r ?_))); done)) | k_ne | assumption)))
  (case ta => ((repeat' (first | (with_reducible exact mem_h) | (with_reducible refine mem_t ?_) | (with_reducible assumption) | (with_reducible exact mem_l (by with_reducible assumption)) | (with_reducible refine mem_r ?_))); done))
  (case td => ((repeat' (first | (with_reducible exact mem_h) | (with_reducible refine mem_t ?_) | (with_reducible assumption) | (with_reducible exact mem_l (by with_reducible assumption)) | (with_reducible refine mem_r ?_))); done))
  (case su => ((repeat' (first | exact List.forall_mem_nil _ | (with_reducible refine List.forall_mem_cons.mpr ⟨?_, ?_⟩) | (with_reducible refine List.forall_mem_append.mpr ⟨?_, ?_⟩) | (with_reducible exact mem_h) | (with_reducible refine mem_t ?_) | (with_reducible exact mem_l (by with_reducible assumption)) | (with_reducible refine mem_r ?_) | (with_reducible assumption) | (intro e9 he9; first | ((repeat' (first | (with_reducible exact he9) | (with_reducible exact mem_l he9) | (with_reducible refine mem_t ?_) | (with_reducible refine mem_r ?_))); done) | (have he8 := hsubT9 _ he9; ((repeat' (first | (with_reducible exact he8) | (with_reducible exact mem_l he8) | (with_reducible refine mem_t ?_) | (with_reducible refine mem_r ?_))); done))))); done))
  (case s9 => ((repeat' (first | (with_reducible refine TupSub.app ?_ ?_) | (with_reducible refine TupSub.list ?_) | ((with_reducible refine' TupSub.dict ?hd9 ?_); (case hd9 => with_reducible assumption)) | (with_reducible refine TupSub.cons ?_ ?_) | (with_reducible exact mem_h) | (with_reducible refine mem_t ?_) | (with_reducible exact mem_l (by with_reducible assumption)) | (with_reducible refine mem_r ?_) | (with_reducible assumption) | (refine TupSub.sub ?_; (intro e9 he9; first | ((repeat' (first | (with_reducible exact he9) | (with_reducible exact mem_l he9) | (with_reducible refine mem_t ?_) | (with_reducible refine mem_r ?_))); done) | (have he8 := hsubT9 _ he9; ((repeat' (first | (with_reducible exact he8) | (with_reducible exact mem_l he8) | (with_reducible refine mem_t ?_) | (with_reducible refine mem_r ?_))); done)))))); done))
  k_whole
  intro rR9 fT9 rowsT9 nRT9 esT9 oDT9 tlR9 h9 tk9 hupR9 hthR9 htabT9 hisT9 hovR9 hRR9 hDR9 F9 N9
  have hhdR9 := hthR9.handed
  have hthL9 := th_up tlR9 hupR9 hthL9
  (try k_sweep)
  (try dsimp only)
  (try k_fold)))
  | (refine hold ?_)))
  (k_with "call ref" => (
  k_here
  (with_reducible show wpAny _ _ (call (Value.ref 475) _) _ _ _)
  (have hk9 := hthR9); clear hk9
  skip
  first
  | (k_dflt (
  (iterate 40 (try ((with_reducible rename _ ∧ _ => hh9); obtain ⟨_, _⟩ := hh9)))
  refine' datum_all 4 ?kB ?kF ?kX ?kN ?p1 ?p2 ?kT ?kk ?kd ?ku ?dl ?od ?ol ?ta ?td htabT9 ?su hisT9 lo9 (DatIn.mono ?s9 hdatA9) (Ok.mono (by decide) hokA9 (by decide)) ?_
  (case kB => k_asm)
  (case kF => k_asm)
  (case kX => k_asm)
  (case kN => k_asm)
  (case p1 => ((repeat' (first | (with_reducible exact Pick.head) | (with_reducible refine' Pick.tail ?_) | (with_reducible refine' Pick.app ?_))); done))
  (case p2 => ((repeat' (first | (with_reducible exact Pick.head) | (with_reducible refine' Pick.tail ?_) | (with_reducible refine' Pick.app ?_))); done))
  (case kT => k_asm)
  (case kk => first | exact rfl | assumption)
  (case kd => exact law_room (by decide))
  (case ku => exact law_units (by decide))
  (case dl => first | with_reducible assumption | exact Ne.symm (by with_reducible assumption) | k_ne)
  (case od => (repeat' (first | (with_reducible assumption) | exact List.forall_mem_nil _ | (with_reducible refine List.forall_mem_cons.mpr ⟨?_, ?_⟩) | (with_reducible refine List.forall_mem_append.mpr ⟨?_, ?_⟩) | exact Over.ne (by with_reducible assumption) (by ((repeat' (first | (with_reducible exact mem_h) | (with_reducible refine mem_t ?_) | (with_reducible assumption) | (with_reducible exact mem_l (by with_reducible assumption)) | (with_reducible refine mem_r ?_))); done)) | exact gt_ne (by with_reducible assumption) | exact Nat.ne_of_lt (by with_reducible assumption) | exact Ne.symm (by with_reducible assumption) | exact allgt_ne (by with_reducible assumption) | exact all_ne (by with_reducible assumption) (by ((repeat' (first | (with_reducible exact mem_h) | (with_reducible refine mem_t ?_) | (with_reducible assumption) | (with_reducible exact mem_l (by with_reducible assumption)) | (with_reducible refine mem_r ?_))); done)) | k_ne | assumption)))
  (case ol => (repeat' (first | (with_reducible assumption) | exact List.forall_mem_nil _ | (with_reducible refine List.forall_mem_cons.mpr ⟨?_, ?_⟩) | (with_reducible refine List.forall_mem_append.mpr ⟨?_, ?_⟩) | exact Over.ne (by with_reducible assumption) (by ((repeat' (first | (with_reducible exact mem_h) | (with_reducible refine mem_t ?_) | (with_reducible assumption) | (with_reducible exact mem_l (by with_reducible assumption)) | (with_reducible refine mem_r ?_))); done)) | exact gt_ne (by with_reducible assumption) | exact Nat.ne_of_lt (by with_reducible assumption) | exact Ne.symm (by with_reducible assumption) | exact allgt_ne (by with_reducible assumption) | exact all_ne (by with_reducible assumption) (by ((repeat' (first | (with_reducible exact mem_h) | (with_reducible refine mem_t ?_) | (with_reducible assumption) | (with_reducible exact mem_l (by with_reducible assumption)) | (with_reducible refine mem_r ?_))); done)) | k_ne | assumption)))
  (case ta => ((repeat' (first | (with_reducible exact mem_h) | (with_reducible refine mem_t ?_) | (with_reducible assumption) | (with_reducible exact mem_l (by with_reducible assumption)) | (with_reducible refine mem_r ?_))); done))
  (case td => ((repeat' (first | (with_reducible exact mem_h) | (with_reducible refine mem_t ?_) | (with_reducible assumption) | (with_reducible exact mem_l (by with_reducible assumption)) | (with_reducible refine mem_r ?_))); done))
  (case su => ((repeat' (first | exact List.forall_mem_nil _ | (with_reducible refine List.forall_mem_cons.mpr ⟨?_, ?_⟩) | (with_reducible refine List.forall_mem_append.mpr ⟨?_, ?_⟩) | (with_reducible exact mem_h) | (with_reducible refine mem_t ?_) | (with_reducible exact mem_l (by with_reducible assumption)) | (with_reducible refine mem_r ?_) | (with_reducible assumption) | (intro e9 he9; first | ((repeat' (first | (with_reducible exact he9) | (with_reducible exact mem_l he9) | (with_reducible refine mem_t ?_) | (with_reducible refine mem_r ?_))); done) | (have he8 := hsubT9 _ he9; ((repeat' (first | (with_reducible exact he8) | (with_reducible exact mem_l he8) | (with_reducible refine mem_t ?_) | (with_reducible refine mem_r ?_))); done))))); done))
  (case s9 => ((repeat' (first | exact List.forall_mem_nil _ | (with_reducible refine List.forall_mem_cons.mpr ⟨?_, ?_⟩) | (with_reducible refine List.forall_mem_append.mpr ⟨?_, ?_⟩) | (with_reducible exact mem_h) | (with_reducible refine mem_t ?_) | (with_reducible exact mem_l (by with_reducible assumption)) | (with_reducible refine mem_r ?_) | (with_reducible assumption) | (intro e9 he9; first | ((repeat' (first | (with_reducible exact he9) | (with_reducible exact mem_l he9) | (with_reducible refine mem_t ?_) | (with_reducible refine mem_r ?_))); done) | (have he8 := hsubT9 _ he9; ((repeat' (first | (with_reducible exact he8) | (with_reducible exact mem_l he8) | (with_reducible refine mem_t ?_) | (with_reducible refine mem_r ?_))); done))))); done))
  k_whole
  intro rX9 fT9 rowsT9 nRT9 esT9 oDT9 tlX9 h9 tk9 hupX9 hthX9 htabT9 hisT9 hovX9 hRX9 hDX9 F9 N9
  have hhdX9 := hthX9.handed
  have hthL9 := th_up tlX9 hupX9 hthL9
  (try k_sweep)
  (try dsimp only)
  (try k_fold)))
  | (refine hold ?_)))
  (k_with "call ref" => (
  k_here
  (with_reducible show wpAny _ _ (call (Value.ref 439) _) _ _ _)
  skip
  skip
  first
  | (k_dflt (
  refine' same_call ?kB ?kF ?kX ?kN ?kT ?kk ?kd ?ku (tab_bit htabT9) ?su ?hl ?hr ?sz ?_
  (case kB => k_asm)
  (case kF => k_asm)
  (case kX => k_asm)
  (case kN => k_asm)
  (case kT => k_asm)
  (case kk => first | exact rfl | assumption)
  (case kd => exact law_room (by decide))
  (case ku => exact law_units (by decide))
  (case hl => first | exact hthL9 | exact hthR9 | exact hthX9)
  (case hr => first | exact hthL9 | exact hthR9 | exact hthX9)
  (case sz => first | exact sz_small (Ok.mono (by decide) hokA9 (by decide)) | exact sz_small hokB9)
  (case su => ((repeat' (first | exact List.forall_mem_nil _ | (with_reducible refine List.forall_mem_cons.mpr ⟨?_, ?_⟩) | (with_reducible refine List.forall_mem_append.mpr ⟨?_, ?_⟩) | (with_reducible exact mem_h) | (with_reducible refine mem_t ?_) | (with_reducible exact mem_l (by with_reducible assumption)) | (with_reducible refine mem_r ?_) | (with_reducible assumption) | (intro e9 he9; first | ((repeat' (first | (with_reducible exact he9) | (with_reducible exact mem_l he9) | (with_reducible refine mem_t ?_) | (with_reducible refine mem_r ?_))); done) | (have he8 := hsubT9 _ he9; ((repeat' (first | (with_reducible exact he8) | (with_reducible exact mem_l he8) | (with_reducible refine mem_t ?_) | (with_reducible refine mem_r ?_))); done))))); done))
  k_whole
  intro h9 tk9 F9 N9
  (first | rw [dec_refl] | rw [dec_symm picA9 picB9] | skip)
  (try k_sweep)
  (try dsimp only)
  (try k_fold)))
  | (refine hold ?_)))
  (k_with "call ref" => (
  k_here
  (with_reducible show wpAny _ _ (call (Value.ref 425) _) _ _ _)
  skip
  skip
  first
  | (k_dflt (
  refine' isatom_call ?kB ?kF ?kX ?kN ?kT ?kk ?kd ?ku ?su hthL9 ?_
  (case kB => k_asm)
  (case kF => k_asm)
  (case kX => k_asm)
  (case kN => k_asm)
  (case kT => k_asm)
  (case kk => first | exact rfl | assumption)
  (case kd => exact law_room (by decide))
  (case ku => exact law_units (by decide))
  (case su => ((repeat' (first | exact List.forall_mem_nil _ | (with_reducible refine List.forall_mem_cons.mpr ⟨?_, ?_⟩) | (with_reducible refine List.forall_mem_append.mpr ⟨?_, ?_⟩) | (with_reducible exact mem_h) | (with_reducible refine mem_t ?_) | (with_reducible exact mem_l (by with_reducible assumption)) | (with_reducible refine mem_r ?_) | (with_reducible assumption) | (intro e9 he9; first | ((repeat' (first | (with_reducible exact he9) | (with_reducible exact mem_l he9) | (with_reducible refine mem_t ?_) | (with_reducible refine mem_r ?_))); done) | (have he8 := hsubT9 _ he9; ((repeat' (first | (with_reducible exact he8) | (with_reducible exact mem_l he8) | (with_reducible refine mem_t ?_) | (with_reducible refine mem_r ?_))); done))))); done))
  k_whole
  intro h9 tk9 F9 N9
  (try k_sweep)
  (try dsimp only)
  (try k_fold)))
  | (refine hold ?_)))
  (k_with "compareOp Eq ref ref" => (k_here; k_dflt (refine' pic_eq (k := 4) (n := 4) ?N (DatIn.mono ?sa hdatA9) (dat_tup ?sb hokB9 hdatB9) (Ok.mono (by decide) hokA9 (by decide)) hokB9 (by decide) ?u ?_; (case N => k_asm); (case sa => ((repeat' (first | exact List.forall_mem_nil _ | (with_reducible refine List.forall_mem_cons.mpr ⟨?_, ?_⟩) | (with_reducible refine List.forall_mem_append.mpr ⟨?_, ?_⟩) | (with_reducible exact mem_h) | (with_reducible refine mem_t ?_) | (with_reducible exact mem_l (by with_reducible assumption)) | (with_reducible refine mem_r ?_) | (with_reducible assumption) | (intro e9 he9; first | ((repeat' (first | (with_reducible exact he9) | (with_reducible exact mem_l he9) | (with_reducible refine mem_t ?_) | (with_reducible refine mem_r ?_))); done) | (have he8 := hsubT9 _ he9; ((repeat' (first | (with_reducible exact he8) | (with_reducible exact mem_l he8) | (with_reducible refine mem_t ?_) | (with_reducible refine mem_r ?_))); done))))); done)); (case sb => ((repeat' (first | (with_reducible refine TupSub.app ?_ ?_) | (with_reducible refine TupSub.list ?_) | ((with_reducible refine' TupSub.dict ?hd9 ?_); (case hd9 => with_reducible assumption)) | (with_reducible refine TupSub.cons ?_ ?_) | (with_reducible exact mem_h) | (with_reducible refine mem_t ?_) | (with_reducible exact mem_l (by with_reducible assumption)) | (with_reducible refine mem_r ?_) | (with_reducible assumption) | (refine TupSub.sub ?_; (intro e9 he9; first | ((repeat' (first | (with_reducible exact he9) | (with_reducible exact mem_l he9) | (with_reducible refine mem_t ?_) | (with_reducible refine mem_r ?_))); done) | (have he8 := hsubT9 _ he9; ((repeat' (first | (with_reducible exact he8) | (with_reducible exact mem_l he8) | (with_reducible refine mem_t ?_) | (with_reducible refine mem_r ?_))); done)))))); done)); (case u => exact law_units (by decide)))))
  (k_with "compareOp NotEq ref ref" => (k_here; k_dflt (refine' ne_told ?N ?a ?b ?u ?_; (case N => k_asm); (case a => ((repeat' (first | (with_reducible exact mem_h) | (with_reducible refine mem_t ?_) | (with_reducible assumption) | (with_reducible exact mem_l (by with_reducible assumption)) | (with_reducible refine mem_r ?_))); done)); (case b => ((repeat' (first | (with_reducible exact mem_h) | (with_reducible refine mem_t ?_) | (with_reducible assumption) | (with_reducible exact mem_l (by with_reducible assumption)) | (with_reducible refine mem_r ?_))); done)); (case u => exact law_units (by decide)))))
  (k_with "compareOp NotEq bool bool" => (k_here; k_dflt (refine' ne_bool_eq rfl ?_)))
  (k_with "compareOp NotIn str ref" => (k_here; k_dflt (refine' notin_atom ?t ?s ?_; (case t => first | exact News.isTup (by k_asm) (by news_mem) | kun_tup); (case s => kde_strs))))
  (k_with "subscriptTail" => (k_here; (with_reducible show wpAny _ _ (subscriptTail _ _ (Value.ref paA9) (Value.int 0 _)) _ _ _); k_dflt (refine' tup_item0 ?N ?m ?_; (case N => k_asm); (case m => ((repeat' (first | (with_reducible exact mem_h) | (with_reducible refine mem_t ?_) | (with_reducible assumption) | (with_reducible exact mem_l (by with_reducible assumption)) | (with_reducible refine mem_r ?_))); done)); k_whole)))
  (k_with "UnrEnd" => (k_here; refine hold ?_))
  (k_with "pyIter ref" => (k_here; (with_reducible show wpAny _ _ (pyIter (Value.ref _)) (fun it s₂ => LoopAtV _ _ _ _ _ _ _ _ _ it s₂) _ _); refine hold ?_))
  w_strict k_go0
  (all_goals try k_fold)
  k_steps
  refine unhold ?_
  (rename Fr _ _ _ _ => kF)
  (rename News _ _ _ _ => kN)
  (rename IsRange _ _ _ _ _ _ _ _ => hR9)
  (rename Obj.IsDictOf (strKind _ _) _ _ => hD9)
  (rename (_ == sysModules) = false => lo9)
  (iterate 24 (try ((with_reducible rename _ ∧ _ => hh9); obtain ⟨_, _⟩ := hh9)))
  refine' law_loop ?hL kF kN ?hA hR9 hv9 ?p1 ?p2 ?p3 ?p4 ?hta ?htd ?g1 ?g2 ?h5 ?h6 ?h7 ?h8 hI9 hc9 hm09 hm19 hD9 ?step ?fin
  (case hL => exact rfl)
  (case p1 => with_reducible exact Pick.tail (Pick.tail (Pick.tail (Pick.tail (Pick.tail (Pick.tail (Pick.head)))))))
  (case p2 => with_reducible exact Pick.tail (Pick.tail (Pick.tail (Pick.tail (Pick.tail (Pick.tail (Pick.head)))))))
  (case p3 => exact Pick.tail (Pick.tail (Pick.tail (Pick.head))))
  (case p4 => with_reducible exact Pick.tail (Pick.tail (Pick.head)))
  (case hA => exact rfl)
  (case hta => with_reducible exact mem_t (mem_t mem_h))
  (case htd => exact mem_t (mem_t (mem_t (mem_hd rfl))))
  (case g1 => with_unfolding_all rfl)
  (case g2 => with_unfolding_all rfl)
  (case h5 => (repeat' (first | (with_reducible assumption) | exact List.forall_mem_nil _ | (with_reducible refine List.forall_mem_cons.mpr ⟨?_, ?_⟩) | (with_reducible refine List.forall_mem_append.mpr ⟨?_, ?_⟩) | exact Over.ne (by with_reducible assumption) (by ((repeat' (first | (with_reducible exact mem_h) | (with_reducible refine mem_t ?_) | (with_reducible assumption) | (with_reducible exact mem_l (by with_reducible assumption)) | (with_reducible refine mem_r ?_))); done)) | exact gt_ne (by with_reducible assumption) | exact Nat.ne_of_lt (by with_reducible assumption) | exact Ne.symm (by with_reducible assumption) | exact allgt_ne (by with_reducible assumption) | exact all_ne (by with_reducible assumption) (by ((repeat' (first | (with_reducible exact mem_h) | (with_reducible refine mem_t ?_) | (with_reducible assumption) | (with_reducible exact mem_l (by with_reducible assumption)) | (with_reducible refine mem_r ?_))); done)) | k_ne | assumption)))
  (case h6 => (repeat' (first | (with_reducible assumption) | exact List.forall_mem_nil _ | (with_reducible refine List.forall_mem_cons.mpr ⟨?_, ?_⟩) | (with_reducible refine List.forall_mem_append.mpr ⟨?_, ?_⟩) | exact Over.ne (by with_reducible assumption) (by ((repeat' (first | (with_reducible exact mem_h) | (with_reducible refine mem_t ?_) | (with_reducible assumption) | (with_reducible exact mem_l (by with_reducible assumption)) | (with_reducible refine mem_r ?_))); done)) | exact gt_ne (by with_reducible assumption) | exact Nat.ne_of_lt (by with_reducible assumption) | exact Ne.symm (by with_reducible assumption) | exact allgt_ne (by with_reducible assumption) | exact all_ne (by with_reducible assumption) (by ((repeat' (first | (with_reducible exact mem_h) | (with_reducible refine mem_t ?_) | (with_reducible assumption) | (with_reducible exact mem_l (by with_reducible assumption)) | (with_reducible refine mem_r ?_))); done)) | k_ne | assumption)))
  (case h7 => (repeat' (first | (with_reducible assumption) | exact List.forall_mem_nil _ | (with_reducible refine List.forall_mem_cons.mpr ⟨?_, ?_⟩) | (with_reducible refine List.forall_mem_append.mpr ⟨?_, ?_⟩) | exact Over.ne (by with_reducible assumption) (by ((repeat' (first | (with_reducible exact mem_h) | (with_reducible refine mem_t ?_) | (with_reducible assumption) | (with_reducible exact mem_l (by with_reducible assumption)) | (with_reducible refine mem_r ?_))); done)) | exact gt_ne (by with_reducible assumption) | exact Nat.ne_of_lt (by with_reducible assumption) | exact Ne.symm (by with_reducible assumption) | exact allgt_ne (by with_reducible assumption) | exact all_ne (by with_reducible assumption) (by ((repeat' (first | (with_reducible exact mem_h) | (with_reducible refine mem_t ?_) | (with_reducible assumption) | (with_reducible exact mem_l (by with_reducible assumption)) | (with_reducible refine mem_r ?_))); done)) | k_ne | assumption)))
  (case h8 => (repeat' (first | (with_reducible assumption) | exact List.forall_mem_nil _ | (with_reducible refine List.forall_mem_cons.mpr ⟨?_, ?_⟩) | (with_reducible refine List.forall_mem_append.mpr ⟨?_, ?_⟩) | exact Over.ne (by with_reducible assumption) (by ((repeat' (first | (with_reducible exact mem_h) | (with_reducible refine mem_t ?_) | (with_reducible assumption) | (with_reducible exact mem_l (by with_reducible assumption)) | (with_reducible refine mem_r ?_))); done)) | exact gt_ne (by with_reducible assumption) | exact Nat.ne_of_lt (by with_reducible assumption) | exact Ne.symm (by with_reducible assumption) | exact allgt_ne (by with_reducible assumption) | exact all_ne (by with_reducible assumption) (by ((repeat' (first | (with_reducible exact mem_h) | (with_reducible refine mem_t ?_) | (with_reducible assumption) | (with_reducible exact mem_l (by with_reducible assumption)) | (with_reducible refine mem_r ?_))); done)) | k_ne | assumption)))
  (case fin =>
    clear kF kN
    intro m9 nx9 h9 tk9 F9 N9
    k_steps)
  (case step =>
    clear kF kN
    intro I9 i9 o9 m9 mixed9 t9 n19 vals9 cells9 n29 rowsT9 nRT9 esT9 oDT9 fT9 syT9 tlT9 tt9 h9 tk9 hI9 hc9 hm09 hm19 htabT9 hsubT9 hisT9 hta9 htd9 hoff1 hoff2 hoff3 hoff4 hdI9 hlI9 hRI9 hDI9 hoI9 F9 N9
    k_steps
    refine unhold ?_
    (rename Fr _ _ _ _ => kF)
    (rename News _ _ _ _ => kN)
    (iterate 40 (try ((with_reducible rename _ ∧ _ => hh9); obtain ⟨_, _⟩ := hh9)))
    refine' law_end kF kN ?pI ?p1 ?p2 ?p3 ?p4 ?g1 ?g2 ?hta ?htd ?h5 ?h6 ?h7 ?h8 ?h9 hdI9 hlI9 hRI9 hDI9 hI9 hc9 hm09 hm19 htabT9 ?hs hisT9
    (case pI => ((repeat' (first | (with_reducible exact Pick.head) | (with_reducible refine' Pick.tail ?_) | (with_reducible refine' Pick.app ?_))); done))
    (case p1 => ((repeat' (first | (with_reducible exact Pick.head) | (with_reducible refine' Pick.tail ?_) | (with_reducible refine' Pick.app ?_))); done))
    (case p2 => ((repeat' (first | (with_reducible exact Pick.head) | (with_reducible refine' Pick.tail ?_) | (with_reducible refine' Pick.app ?_))); done))
    (case p3 => ((repeat' (first | (with_reducible exact Pick.head) | (with_reducible refine' Pick.tail ?_) | (with_reducible refine' Pick.app ?_))); done))
    (case p4 => ((repeat' (first | (with_reducible exact Pick.head) | (with_reducible refine' Pick.tail ?_) | (with_reducible refine' Pick.app ?_))); done))
    (case g1 => with_unfolding_all rfl)
    (case g2 => with_unfolding_all rfl)
    (case hta => ((repeat' (first | (with_reducible exact mem_h) | (with_reducible refine mem_t ?_) | (with_reducible assumption) | (with_reducible exact mem_l (by with_reducible assumption)) | (with_reducible refine mem_r ?_))); done))
    (case htd => ((repeat' (first | (with_reducible exact mem_h) | (with_reducible refine mem_t ?_) | (with_reducible assumption) | (with_reducible exact mem_l (by with_reducible assumption)) | (with_reducible refine mem_r ?_))); done))
    (case h5 => (repeat' (first | (with_reducible assumption) | exact List.forall_mem_nil _ | (with_reducible refine List.forall_mem_cons.mpr ⟨?_, ?_⟩) | (with_reducible refine List.forall_mem_append.mpr ⟨?_, ?_⟩) | exact Over.ne (by with_reducible assumption) (by ((repeat' (first | (with_reducible exact mem_h) | (with_reducible refine mem_t ?_) | (with_reducible assumption) | (with_reducible exact mem_l (by with_reducible assumption)) | (with_reducible refine mem_r ?_))); done)) | exact gt_ne (by with_reducible assumption) | exact Nat.ne_of_lt (by with_reducible assumption) | exact Ne.symm (by with_reducible assumption) | exact allgt_ne (by with_reducible assumption) | exact all_ne (by with_reducible assumption) (by ((repeat' (first | (with_reducible exact mem_h) | (with_reducible refine mem_t ?_) | (with_reducible assumption) | (with_reducible exact mem_l (by with_reducible assumption)) | (with_reducible refine mem_r ?_))); done)) | k_ne | assumption)))
    (case h6 => (repeat' (first | (with_reducible assumption) | exact List.forall_mem_nil _ | (with_reducible refine List.forall_mem_cons.mpr ⟨?_, ?_⟩) | (with_reducible refine List.forall_mem_append.mpr ⟨?_, ?_⟩) | exact Over.ne (by with_reducible assumption) (by ((repeat' (first | (with_reducible exact mem_h) | (with_reducible refine mem_t ?_) | (with_reducible assumption) | (with_reducible exact mem_l (by with_reducible assumption)) | (with_reducible refine mem_r ?_))); done)) | exact gt_ne (by with_reducible assumption) | exact Nat.ne_of_lt (by with_reducible assumption) | exact Ne.symm (by with_reducible assumption) | exact allgt_ne (by with_reducible assumption) | exact all_ne (by with_reducible assumption) (by ((repeat' (first | (with_reducible exact mem_h) | (with_reducible refine mem_t ?_) | (with_reducible assumption) | (with_reducible exact mem_l (by with_reducible assumption)) | (with_reducible refine mem_r ?_))); done)) | k_ne | assumption)))
    (case h7 => (repeat' (first | (with_reducible assumption) | exact List.forall_mem_nil _ | (with_reducible refine List.forall_mem_cons.mpr ⟨?_, ?_⟩) | (with_reducible refine List.forall_mem_append.mpr ⟨?_, ?_⟩) | exact Over.ne (by with_reducible assumption) (by ((repeat' (first | (with_reducible exact mem_h) | (with_reducible refine mem_t ?_) | (with_reducible assumption) | (with_reducible exact mem_l (by with_reducible assumption)) | (with_reducible refine mem_r ?_))); done)) | exact gt_ne (by with_reducible assumption) | exact Nat.ne_of_lt (by with_reducible assumption) | exact Ne.symm (by with_reducible assumption) | exact allgt_ne (by with_reducible assumption) | exact all_ne (by with_reducible assumption) (by ((repeat' (first | (with_reducible exact mem_h) | (with_reducible refine mem_t ?_) | (with_reducible assumption) | (with_reducible exact mem_l (by with_reducible assumption)) | (with_reducible refine mem_r ?_))); done)) | k_ne | assumption)))
    (case h8 => (repeat' (first | (with_reducible assumption) | exact List.forall_mem_nil _ | (with_reducible refine List.forall_mem_cons.mpr ⟨?_, ?_⟩) | (with_reducible refine List.forall_mem_append.mpr ⟨?_, ?_⟩) | exact Over.ne (by with_reducible assumption) (by ((repeat' (first | (with_reducible exact mem_h) | (with_reducible refine mem_t ?_) | (with_reducible assumption) | (with_reducible exact mem_l (by with_reducible assumption)) | (with_reducible refine mem_r ?_))); done)) | exact gt_ne (by with_reducible assumption) | exact Nat.ne_of_lt (by with_reducible assumption) | exact Ne.symm (by with_reducible assumption) | exact allgt_ne (by with_reducible assumption) | exact all_ne (by with_reducible assumption) (by ((repeat' (first | (with_reducible exact mem_h) | (with_reducible refine mem_t ?_) | (with_reducible assumption) | (with_reducible exact mem_l (by with_reducible assumption)) | (with_reducible refine mem_r ?_))); done)) | k_ne | assumption)))
    (case h9 => (repeat' (first | (with_reducible assumption) | exact List.forall_mem_nil _ | (with_reducible refine List.forall_mem_cons.mpr ⟨?_, ?_⟩) | (with_reducible refine List.forall_mem_append.mpr ⟨?_, ?_⟩) | exact Over.ne (by with_reducible assumption) (by ((repeat' (first | (with_reducible exact mem_h) | (with_reducible refine mem_t ?_) | (with_reducible assumption) | (with_reducible exact mem_l (by with_reducible assumption)) | (with_reducible refine mem_r ?_))); done)) | exact gt_ne (by with_reducible assumption) | exact Nat.ne_of_lt (by with_reducible assumption) | exact Ne.symm (by with_reducible assumption) | exact allgt_ne (by with_reducible assumption) | exact all_ne (by with_reducible assumption) (by ((repeat' (first | (with_reducible exact mem_h) | (with_reducible refine mem_t ?_) | (with_reducible assumption) | (with_reducible exact mem_l (by with_reducible assumption)) | (with_reducible refine mem_r ?_))); done)) | k_ne | assumption)))
    (case hs => ((repeat' (first | exact List.forall_mem_nil _ | (with_reducible refine List.forall_mem_cons.mpr ⟨?_, ?_⟩) | (with_reducible refine List.forall_mem_append.mpr ⟨?_, ?_⟩) | (with_reducible exact mem_h) | (with_reducible refine mem_t ?_) | (with_reducible exact mem_l (by with_reducible assumption)) | (with_reducible refine mem_r ?_) | (with_reducible assumption) | (intro e9 he9; first | ((repeat' (first | (with_reducible exact he9) | (with_reducible exact mem_l he9) | (with_reducible refine mem_t ?_) | (with_reducible refine mem_r ?_))); done) | (have he8 := hsubT9 _ he9; ((repeat' (first | (with_reducible exact he8) | (with_reducible exact mem_l he8) | (with_reducible refine mem_t ?_) | (with_reducible refine mem_r ?_))); done))))); done))))
end
end Mine
theorem PySem.Challenge.cw_on0294_01_holds : PySem.Challenge.rw_on0294_01.Holds :=
  Mine.law0
