import PyProof.Rows.All
import Wide.All
import OpenK.AllK
import Wide.FinOn
import HandS.Base
import HandS.Codes
import HandS.Deep
import HandS.Defaults
import HandS.ForMost
import HandS.IsInst
import HandS.Replace
import HandS.SetFor
import HandS.Strs
import PyProof.ListStr
import PyProof.Rows.CountFlat
import PyProof.StrBlock2
import PySem.Challenge.RW_gazette_k03_whole_only_named_matters
set_option Elab.async false
set_option linter.all false
set_option maxRecDepth 100000
set_option maxHeartbeats 8000000
namespace Gz
open PySem PySem.Spec PyProof.Rows L2

/-! ### the rules that the layer lacks -/
theorem count_strs (k : Str) : ∀ ys : List Str, countIn (.str k) (ys.map PyData.str) = ((ys.count k : Nat) : Int)
  | [] => rfl
  | y :: ys => by
    have ih := count_strs k ys
    rw [List.map_cons, countIn, ih, List.count_cons]
    simp only [same]
    rcases Bool.eq_false_or_eq_true (y == k) with hb | hb <;> simp only [hb, Bool.false_eq_true, if_true, if_false] <;> omega

section
variable {X : Cx}
/-- xs.count(t) of a list of texts -/
def rCntS (K : PySem.W.Frag) : V → List V → Hp → VK → Prop := fun x xs H Q =>
  ∃ (p : Addr) (ys : List Str) (k : Str), x = .ref p ∧ xs = [.str k] ∧ SqL K H p (ys.map V.str) ∧ Q (.int (ys.count k : Nat)) H
theorem mt_cntS : MtR X "list.count" (rCntS X.K) := by
  intro pins s σ H x xs v us Q I rx rxs h
  obtain ⟨p, ys, k, rfl, rfl, hs, q⟩ := h
  cases rx
  obtain ⟨u, rfl, ru⟩ := rxs.one
  obtain ⟨t, rfl⟩ := ru
  obtain ⟨its, rv, pl, hlen⟩ := I.list hs
  refine count_list_strs pl.isList (strs_of_vals rv) ?_
  rw [count_strs]
  exact ⟨.int (ys.count k : Nat), H, I.tok _, ⟨s.toks, rfl⟩, q⟩

/-- list(t) of a text: its signs -/
def signs (z : Str) : List Str := z.cps.toList.map fun c => ⟨#[c]⟩
theorem signs_len (z : Str) : (signs z).length = z.cps.size := by
  unfold signs
  rw [List.length_map, Array.length_toList]
def kLstS (x : V) (H : Hp) (Q : VK) : Prop := ∃ z : Str, x = .str z ∧ z.cps.size ≤ sizeLine ∧ ∀ q, H q = none → Q (.ref q) (upd H q (.lst ((signs z).map V.str)))
theorem call_list_signs (hc : X.calm = true) : CallR X (.type "list") (r1 kLstS) := by
  refine call_r1 fun pins s σ H x v Q I r h => ?_
  obtain ⟨z, rfl, hz, q⟩ := h
  obtain ⟨t, rfl⟩ := r
  refine call_list_str (I.ok.hd hc) z t (fun h' tk acc c' hk e hi => ?_) hz
  have hl : ((signs z).map V.str).length = z.cps.size := by rw [List.length_map, signs_len]
  refine ⟨.ref s.heap.objs.size, _, I.laid hk (Nat.le_refl _) (show ObjOk X.prog X.w _ h' _ (.lst ((signs z).map V.str)) from ⟨by omega, acc.toList, c', ?_, ?_⟩), rfl, q _ (I.hok.fresh (Nat.le_refl _))⟩
  · refine vals_of_idx _ _ (by rw [hl, Array.length_toList]; exact hi.1) fun j u hj => ?_
    obtain ⟨c, t', hcc, rfl⟩ := hi.2 j u (by rw [← Array.getElem?_toList]; exact hj)
    refine ⟨.str ⟨#[c]⟩, ?_, ⟨_, rfl⟩⟩
    unfold signs
    rw [List.getElem?_map, List.getElem?_map, Array.getElem?_toList, hcc]
    all_goals rfl
  · rw [Array.toArray_toList]; exact e

/-- t * n -/
def rRepS : R2 := fun x y H Q => ∃ (z : Str) (n : Int), x = .str z ∧ y = .int n ∧ MulOk z n ∧ Q (.str (Txt.mul z n)) H
theorem op_repS : OpR X (binaryOp .Mult) rRepS := by
  intro pins s σ H x y v u Q I rx ry h
  obtain ⟨z, n, rfl, rfl, ok, q⟩ := h
  obtain ⟨t, rfl⟩ := rx
  obtain ⟨t', rfl⟩ := ry
  exact SB.mul ok fun tk k => ⟨.str (Txt.mul z n), H, I.tok _, ⟨_, rfl⟩, q⟩
end

section
variable {P : Program} {w : World} {A : Around} {E : Value → Shared → Prop} {s : Shared}
abbrev setLaid (w : World) (s : Shared) : Obj := { cls := .type "set", dict := none, data := .set #[] 0 (.fresh 0 0 (!w.params.followText "set-order")) }
/-- set(l), l a list of ints -/
theorem set_of_list {l : Addr} {items : Array Value} (ns : List Int) {Q : Value → Shared → Prop} (hh : A.handled = none) (hl : s.heap.IsList l items) (hit : IntsAre items.toList ns) (hb : ns.length + 1 < scanBound)
    (h : ∀ (h' : Heap) (tk c : Nat), SetR w h' s.heap.objs.size (fun j => decide (j ∈ ns)) c → c ≤ ns.length → (∀ b o, s.heap.get? b = some o → h'.get? b = some o) → Q (.ref s.heap.objs.size) { s with heap := h', toks := tk }) :
    wpAny (model P w) A (call (.type "set") [.ref l]) Q E s := by
  have hisz : items.size = ns.length := by
    have q := IntsAre.length hit
    rw [Array.length_toList] at q
    exact q
  obtain ⟨c, tl, hmro⟩ := F.called_set.mro
  have hmade := F.called_set.made
  have hsub := F.called_set.sub
  refine wpAny_call (codeAny_of_tree ?_)
  show wpAny _ _ (callAny (.type "set") _) _ _ _
  refine wpAny_pure ⟨Code.quiet_builtin _ (by decide +kernel), codeAny_builtin F.entry_type_call ?_⟩
  rw [Around.under_plain (weight_type_call_type "set" [.ref l] []) rfl]
  have h1 := F.called_set.notType
  have h2 := F.called_set.canCreate
  have hct := F.typeCall_set_1 (.ref l)
  repeat (any_goals (first | assumption | wp_step))
  refine codeAny_mono (code_set_led1 (.ref l) (E := E) (Q₁ := fun obj s₁ => obj = .ref s.heap.objs.size ∧ s₁ = { s with heap := s.heap.push (setLaid w s) }) ⟨rfl, rfl⟩) fun r s₁ hr => ?_
  cases r with
  | error e => exact hr
  | ok fl =>
    cases fl with
    | ret obj =>
      obtain ⟨rfl, rfl⟩ := hr
      have hS : (s.heap.push (setLaid w s)).get? s.heap.objs.size = some (setLaid w s) := Heap.get?_push_size _ rfl
      have hT : Shared.TypeIs { s with heap := s.heap.push (setLaid w s) } (.ref s.heap.objs.size) "set" := ⟨_, hS, rfl⟩
      have hli := F.called_set.init.lookup
      have hbi := F.called_set.init.bind (.ref s.heap.objs.size)
      repeat (any_goals (first | assumption | wp_step))
      refine codeAny_mono (codeAny_call_builtin (R := wants (fun r s₂ => r = .none ∧ ∃ h' tk c, s₂ = { s with heap := h', toks := tk } ∧ SetR w h' s.heap.objs.size (fun j => decide (j ∈ ns)) c ∧ c ≤ ns.length ∧
          (∀ b o, s.heap.get? b = some o → h'.get? b = some o)) E) F.called_set.init.plain F.entry_set_init (check_set_init_1 hT ?_)) fun r₂ s₂ hr₂ => ?_
      · obtain ⟨ol, hol, hcl, nl, hdl⟩ := hl
        obtain ⟨ocls, odict, odata, oslots⟩ := ol
        simp only at hcl hdl
        subst hcl; subst hdl
        have hol' : (s.heap.push (setLaid w s)).get? l = some { cls := .type "list", dict := odict, data := .seq items nl, slots := oslots } := Heap.get?_push_of_some _ hol
        have hsls := F.sub_list_set
        have hslf := F.sub_list_frozenset
        have hne : (Value.type "list" == Value.type "dict") = false := by decide
        have hl1 : (s.heap.push (setLaid w s)).IsList l items := ⟨_, hol', rfl, nl, rfl⟩
        unfold Builtin.«set.__init__» noKeywords Builtin.Frozenset.updateFrom
        generalize hPI : pyIter = PI
        wp_walk
        subst hPI
        refine wpAny_pyIter_list hl1 ?_
        refine wpAny_bind (wpAny_runValue ?_)
        have hlS : l < s.heap.objs.size := Heap.lt_size hol
        have hh3 : A.in1.in1.in1.handled = none := by simp [hh]
        have hneI : l ≠ (s.heap.push (setLaid w s)).objs.size := by
          rw [Heap.size_push]; exact Nat.ne_of_lt (Nat.lt_succ_of_lt hlS)
        have hSf : s.heap.objs.size ∉ [(s.heap.push (setLaid w s)).objs.size, l] := by
          rw [Heap.size_push]; simp only [List.mem_cons, List.mem_singleton, List.not_mem_nil, or_false, not_or]
          exact ⟨Nat.ne_of_lt (Nat.lt_succ_self _), Nat.ne_of_gt hlS⟩
        have hval : ∀ (i : Nat) (v : Value), items[i]? = some v → ∃ k t, ns[i]? = some k ∧ v = .int k t := fun i v hv => by
          have hi : i < ns.length := by rw [← hisz]; exact (Array.getElem?_eq_some_iff.mp hv).1
          obtain ⟨t, e⟩ := PyProof.Rows.IntsAre.int_at hit i v (by rw [Array.getElem?_toList]; exact hv)
          refine ⟨ns[i], t, List.getElem?_eq_getElem hi, ?_⟩
          rw [e, List.getD_eq_getElem?_getD, List.getElem?_eq_getElem hi] <;> rfl
        refine set_update_ints ((Walks.list hh3 _ l hneI items).toS) s.heap.objs.size
          hSf ns hisz hb hval (items.size - 0) 0 _ (by omega) (Nat.zero_le _)
          ⟨⟨_, Heap.get?_push_size _ rfl, rfl, rfl⟩, (hl1.push _)⟩ ?hS0 ?hR
        case hS0 =>
          have hget : ((s.heap.push (setLaid w s)).push { cls := .type "list_iterator", data := .fields #[.ref l, .int 0 0] }).get? s.heap.objs.size = some (setLaid w s) := Heap.get?_push_of_some _ hS
          exact ⟨0, Nat.le_refl 0, setR_new_at hget⟩
        case hR =>
          intro s' c' hm hc' hS'
          obtain ⟨h', g2, d', tk', os'⟩ := s'
          have eg : g2 = s.gens := hm.gens
          have ed : d' = s.drawn := hm.drawn
          have eo : os' = s.os := hm.os
          subst eg; subst ed; subst eo
          show wpAny _ _ _ _ _ _
          refine wpAny_pure ?_
          show wpAny _ _ (ret Value.none) _ _ _
          rw [hisz] at hc'
          refine wpAny_pure ⟨rfl, h', tk', c', rfl, hS', hc', fun b o e => ?_⟩
          have hb0 : b < s.heap.objs.size := Heap.lt_size e
          have hb1 : b ≠ s.heap.objs.size := Nat.ne_of_lt hb0
          have hb2 : b ≠ (s.heap.push (setLaid w s)).objs.size := by
            rw [Heap.size_push]; exact Nat.ne_of_lt (Nat.lt_succ_of_lt hb0)
          exact hm.heap b o (by simp only [List.mem_cons, List.mem_singleton, List.not_mem_nil, or_false, not_or]; exact ⟨hb1, hb2⟩) (Heap.get?_push_of_some _ (Heap.get?_push_of_some _ e))
      · cases r₂ with
        | error e => exact hr₂
        | ok fl₂ =>
          cases fl₂ with
          | ret r =>
            obtain ⟨rfl, h', tk, c', rfl, hS', hc', hk'⟩ := hr₂
            repeat (any_goals (first | assumption | wp_step))
            exact h _ _ _ hS' hc' hk'
          | _ => exact hr₂.elim
    | _ => exact hr.elim
end
section
variable {X : Cx}
/-- set(xs) of a list of ints -/
def rSetL (K : PySem.W.Frag) (w : World) : List V → Hp → VK → Prop := fun xs H Q => ∃ (l : Addr) (ns : List Int), xs = [.ref l] ∧ SqL K H l (ns.map V.int) ∧ ns.length ≤ 1000 ∧
  ∀ (p : Addr) (c : Nat), H p = none → c ≤ ns.length → Q (.ref p) (upd H p (SetO w p (fun j => decide (j ∈ ns)) c))
theorem cr_setL (hc : X.calm = true) : CallR X (.type "set") (rSetL X.K X.w) := by
  intro pins s σ H xs us Q I r h
  obtain ⟨l, ns, rfl, hq, hl, q⟩ := h
  obtain ⟨u, rfl, rx⟩ := r.one
  cases rx
  obtain ⟨its, rv, pl, hz⟩ := I.list hq
  have hi : IntsAre its.toArray.toList ns := ints_of_vals rv
  refine set_of_list ns (I.ok.hd hc) pl.isList hi (by unfold scanBound; omega) fun h' tk c R1 hcn k => ?_
  exact ⟨.ref _, upd H s.heap.objs.size (SetO X.w s.heap.objs.size (fun j => decide (j ∈ ns)) c), I.laid k (Nat.le_refl _) (setO_new R1), rfl, q _ c (I.hok.fresh (Nat.le_refl _)) hcn⟩
end
end Gz

namespace Gz
open PySem

/-! ### the mathematics: rules, tallies, what passes -/
inductive Thr where
  | num (n : Int)
  | par (i : Int)
inductive Den where
  | seats
  | attending
  | voting
inductive Rule where
  | yeas (c : Int) (t : Thr)
  | quorum (c : Int) (t : Thr)
  | majority (c : Int) (d : Den)
  | fraction (c p q : Int) (d : Den)
  | premier
  | all (x y : Rule)
  | any (x y : Rule)
structure Tl where
  n : Int
  y : Int
  a : Int
  p : Int
def Thr.val (L : Int → Int) : Thr → Int
  | .num n => n
  | .par i => L i
def Den.val (t : Tl) : Den → Int
  | .seats => t.n
  | .attending => t.y + t.a + t.p
  | .voting => t.y + t.a
/-- a rule of one piece, by the tally of its chamber -/
def Rule.one (t : Tl) (L : Int → Int) (m : Bool) : Rule → Bool
  | .yeas _ h => decide (h.val L ≤ t.y)
  | .quorum _ h => decide (h.val L ≤ t.y + t.a + t.p)
  | .majority _ d => decide (d.val t < 2 * t.y)
  | .fraction _ p q d => decide (p * d.val t ≤ q * t.y)
  | .premier => m
  | .all _ _ => false
  | .any _ _ => false
def Rule.ch : Rule → Option Int
  | .yeas c _ => some c
  | .quorum c _ => some c
  | .majority c _ => some c
  | .fraction c _ _ _ => some c
  | _ => none
def Thr.no : Thr → Option Int
  | .num _ => none
  | .par i => some i
def Rule.no : Rule → Option Int
  | .yeas _ t => t.no
  | .quorum _ t => t.no
  | _ => none
def Rule.pass (T : Int → Tl) (L : Int → Int) (m : Bool) : Rule → Bool
  | .yeas c h => Rule.one (T c) L m (.yeas c h)
  | .quorum c h => Rule.one (T c) L m (.quorum c h)
  | .majority c d => Rule.one (T c) L m (.majority c d)
  | .fraction c p q d => Rule.one (T c) L m (.fraction c p q d)
  | .premier => m
  | .all x y => x.pass T L m && y.pass T L m
  | .any x y => x.pass T L m || y.pass T L m
def Rule.leaves : Rule → List Rule
  | .all x y => x.leaves ++ y.leaves
  | .any x y => x.leaves ++ y.leaves
  | .yeas c h => [.yeas c h]
  | .quorum c h => [.quorum c h]
  | .majority c d => [.majority c d]
  | .fraction c p q d => [.fraction c p q d]
  | .premier => [.premier]
def Rule.simples : Rule → List Rule
  | .all x y => x.simples ++ y.simples
  | .any x y => x.simples ++ y.simples
  | .yeas c h => [.yeas c h]
  | .quorum c h => [.quorum c h]
  | .majority c d => [.majority c d]
  | .fraction c p q d => [.fraction c p q d]
  | .premier => []
def Rule.depth : Rule → Nat
  | .all x y => max x.depth y.depth + 1
  | .any x y => max x.depth y.depth + 1
  | _ => 0
/-- no all, no any -/
def Rule.flat : Rule → Prop
  | .all _ _ => False
  | .any _ _ => False
  | _ => True
def Rule.simple : Rule → Prop
  | .all _ _ => False
  | .any _ _ => False
  | .premier => False
  | _ => True
def Rule.isPrem : Rule → Bool
  | .premier => true
  | _ => false
def Rule.prem : Rule → Bool
  | .premier => true
  | .all x y => x.prem || y.prem
  | .any x y => x.prem || y.prem
  | _ => false
def Rule.chs (r : Rule) : List Int := r.leaves.filterMap Rule.ch
def Rule.nos (r : Rule) : List Int := r.leaves.filterMap Rule.no

theorem chs_simples : ∀ r : Rule, r.simples.filterMap Rule.ch = r.chs
  | .all x y => by
    have h1 := chs_simples x
    have h2 := chs_simples y
    unfold Rule.chs at *
    simp only [Rule.simples, Rule.leaves, List.filterMap_append, h1, h2]
  | .any x y => by
    have h1 := chs_simples x
    have h2 := chs_simples y
    unfold Rule.chs at *
    simp only [Rule.simples, Rule.leaves, List.filterMap_append, h1, h2]
  | .yeas _ _ => rfl
  | .quorum _ _ => rfl
  | .majority _ _ => rfl
  | .fraction _ _ _ _ => rfl
  | .premier => rfl
theorem nos_simples : ∀ r : Rule, r.simples.filterMap Rule.no = r.nos
  | .all x y => by
    have h1 := nos_simples x
    have h2 := nos_simples y
    unfold Rule.nos at *
    simp only [Rule.simples, Rule.leaves, List.filterMap_append, h1, h2]
  | .any x y => by
    have h1 := nos_simples x
    have h2 := nos_simples y
    unfold Rule.nos at *
    simp only [Rule.simples, Rule.leaves, List.filterMap_append, h1, h2]
  | .yeas _ _ => rfl
  | .quorum _ _ => rfl
  | .majority _ _ => rfl
  | .fraction _ _ _ _ => rfl
  | .premier => rfl
theorem leaves_flat : ∀ r : Rule, ∀ x ∈ r.leaves, x.flat
  | .all a b => fun x h => by
    rcases List.mem_append.mp h with h | h
    · exact leaves_flat a x h
    · exact leaves_flat b x h
  | .any a b => fun x h => by
    rcases List.mem_append.mp h with h | h
    · exact leaves_flat a x h
    · exact leaves_flat b x h
  | .yeas _ _ => fun x h => by rw [List.mem_singleton.mp h]; trivial
  | .quorum _ _ => fun x h => by rw [List.mem_singleton.mp h]; trivial
  | .majority _ _ => fun x h => by rw [List.mem_singleton.mp h]; trivial
  | .fraction _ _ _ _ => fun x h => by rw [List.mem_singleton.mp h]; trivial
  | .premier => fun x h => by rw [List.mem_singleton.mp h]; trivial
theorem simples_simple : ∀ r : Rule, ∀ x ∈ r.simples, x.simple
  | .all a b => fun x h => by
    rcases List.mem_append.mp h with h | h
    · exact simples_simple a x h
    · exact simples_simple b x h
  | .any a b => fun x h => by
    rcases List.mem_append.mp h with h | h
    · exact simples_simple a x h
    · exact simples_simple b x h
  | .yeas _ _ => fun x h => by rw [List.mem_singleton.mp h]; trivial
  | .quorum _ _ => fun x h => by rw [List.mem_singleton.mp h]; trivial
  | .majority _ _ => fun x h => by rw [List.mem_singleton.mp h]; trivial
  | .fraction _ _ _ _ => fun x h => by rw [List.mem_singleton.mp h]; trivial
  | .premier => fun x h => by cases h
theorem pow_two_le {a b n : Nat} (ha : a ≤ n) (hb : b ≤ n) : 2 ^ a + 2 ^ b ≤ 2 ^ (n + 1) := by
  have h1 := Nat.pow_le_pow_right (n := 2) (by omega) ha
  have h2 := Nat.pow_le_pow_right (n := 2) (by omega) hb
  rw [Nat.pow_succ]
  omega
theorem leaves_len : ∀ r : Rule, r.leaves.length ≤ 2 ^ r.depth
  | .all a b => by
    have h1 := leaves_len a
    have h2 := leaves_len b
    have h3 := pow_two_le (Nat.le_max_left a.depth b.depth) (Nat.le_max_right a.depth b.depth)
    show (a.leaves ++ b.leaves).length ≤ 2 ^ (max a.depth b.depth + 1)
    rw [List.length_append]
    omega
  | .any a b => by
    have h1 := leaves_len a
    have h2 := leaves_len b
    have h3 := pow_two_le (Nat.le_max_left a.depth b.depth) (Nat.le_max_right a.depth b.depth)
    show (a.leaves ++ b.leaves).length ≤ 2 ^ (max a.depth b.depth + 1)
    rw [List.length_append]
    omega
  | .yeas _ _ => Nat.le_refl 1
  | .quorum _ _ => Nat.le_refl 1
  | .majority _ _ => Nat.le_refl 1
  | .fraction _ _ _ _ => Nat.le_refl 1
  | .premier => Nat.le_refl 1
theorem simples_len : ∀ r : Rule, r.simples.length ≤ 2 ^ r.depth
  | .all a b => by
    have h1 := simples_len a
    have h2 := simples_len b
    have h3 := pow_two_le (Nat.le_max_left a.depth b.depth) (Nat.le_max_right a.depth b.depth)
    show (a.simples ++ b.simples).length ≤ 2 ^ (max a.depth b.depth + 1)
    rw [List.length_append]
    omega
  | .any a b => by
    have h1 := simples_len a
    have h2 := simples_len b
    have h3 := pow_two_le (Nat.le_max_left a.depth b.depth) (Nat.le_max_right a.depth b.depth)
    show (a.simples ++ b.simples).length ≤ 2 ^ (max a.depth b.depth + 1)
    rw [List.length_append]
    omega
  | .yeas _ _ => Nat.le_refl 1
  | .quorum _ _ => Nat.le_refl 1
  | .majority _ _ => Nat.le_refl 1
  | .fraction _ _ _ _ => Nat.le_refl 1
  | .premier => Nat.zero_le _
theorem pow_depth {r : Rule} {n : Nat} (h : r.depth ≤ n) : 2 ^ r.depth ≤ 2 ^ n := Nat.pow_le_pow_right (by omega) h
theorem leaves_prem : ∀ r : Rule, r.leaves.any Rule.isPrem = r.prem
  | .all a b => by
    have h1 := leaves_prem a
    have h2 := leaves_prem b
    show (a.leaves ++ b.leaves).any Rule.isPrem = (a.prem || b.prem)
    rw [List.any_append, h1, h2]
  | .any a b => by
    have h1 := leaves_prem a
    have h2 := leaves_prem b
    show (a.leaves ++ b.leaves).any Rule.isPrem = (a.prem || b.prem)
    rw [List.any_append, h1, h2]
  | .yeas _ _ => rfl
  | .quorum _ _ => rfl
  | .majority _ _ => rfl
  | .fraction _ _ _ _ => rfl
  | .premier => rfl
theorem val_congr {L L' : Int → Int} (t : Thr) (h : ∀ i, t.no = some i → L i = L' i) : t.val L = t.val L' := by
  cases t with
  | num n => rfl
  | par i => exact h i rfl
/-- whether a rule passes depends on what it names alone -/
theorem pass_congr {T T' : Int → Tl} {L L' : Int → Int} {m m' : Bool} : ∀ r : Rule, (∀ c ∈ r.chs, T c = T' c) → (∀ i ∈ r.nos, L i = L' i) → (r.prem = true → m = m') → r.pass T L m = r.pass T' L' m'
  | .all a b => fun h1 h2 h3 => by
    have e1 := pass_congr a (fun c hc => h1 c (by show c ∈ (a.leaves ++ b.leaves).filterMap _; rw [List.filterMap_append]; exact List.mem_append_left _ hc))
      (fun c hc => h2 c (by show c ∈ (a.leaves ++ b.leaves).filterMap _; rw [List.filterMap_append]; exact List.mem_append_left _ hc)) (fun hp => h3 (by show (a.prem || b.prem) = true; rw [hp]; rfl))
    have e2 := pass_congr b (fun c hc => h1 c (by show c ∈ (a.leaves ++ b.leaves).filterMap _; rw [List.filterMap_append]; exact List.mem_append_right _ hc))
      (fun c hc => h2 c (by show c ∈ (a.leaves ++ b.leaves).filterMap _; rw [List.filterMap_append]; exact List.mem_append_right _ hc)) (fun hp => h3 (by show (a.prem || b.prem) = true; rw [hp, Bool.or_true]))
    show (a.pass T L m && b.pass T L m) = (a.pass T' L' m' && b.pass T' L' m')
    rw [e1, e2]
  | .any a b => fun h1 h2 h3 => by
    have e1 := pass_congr a (fun c hc => h1 c (by show c ∈ (a.leaves ++ b.leaves).filterMap _; rw [List.filterMap_append]; exact List.mem_append_left _ hc))
      (fun c hc => h2 c (by show c ∈ (a.leaves ++ b.leaves).filterMap _; rw [List.filterMap_append]; exact List.mem_append_left _ hc)) (fun hp => h3 (by show (a.prem || b.prem) = true; rw [hp]; rfl))
    have e2 := pass_congr b (fun c hc => h1 c (by show c ∈ (a.leaves ++ b.leaves).filterMap _; rw [List.filterMap_append]; exact List.mem_append_right _ hc))
      (fun c hc => h2 c (by show c ∈ (a.leaves ++ b.leaves).filterMap _; rw [List.filterMap_append]; exact List.mem_append_right _ hc)) (fun hp => h3 (by show (a.prem || b.prem) = true; rw [hp, Bool.or_true]))
    show (a.pass T L m || b.pass T L m) = (a.pass T' L' m' || b.pass T' L' m')
    rw [e1, e2]
  | .yeas c t => fun h1 h2 _ => by
    have e1 : T c = T' c := h1 c (List.mem_singleton.mpr rfl)
    have e2 : t.val L = t.val L' := val_congr t fun i hi => h2 i (by show i ∈ [Rule.yeas c t].filterMap Rule.no; simp [Rule.no, hi])
    simp only [Rule.pass, Rule.one, e1, e2]
  | .quorum c t => fun h1 h2 _ => by
    have e1 : T c = T' c := h1 c (List.mem_singleton.mpr rfl)
    have e2 : t.val L = t.val L' := val_congr t fun i hi => h2 i (by show i ∈ [Rule.quorum c t].filterMap Rule.no; simp [Rule.no, hi])
    simp only [Rule.pass, Rule.one, e1, e2]
  | .majority c d => fun h1 _ _ => by
    have e1 : T c = T' c := h1 c (List.mem_singleton.mpr rfl)
    simp only [Rule.pass, Rule.one, e1]
  | .fraction c p q d => fun h1 _ _ => by
    have e1 : T c = T' c := h1 c (List.mem_singleton.mpr rfl)
    simp only [Rule.pass, Rule.one, e1]
  | .premier => fun _ _ h3 => h3 rfl

/-! ### ascending lists -/
def Asc (l ns : List Int) : Prop := ns.Pairwise (· < ·) ∧ ∀ k, k ∈ ns ↔ k ∈ l
theorem asc_eq : ∀ {a b : List Int}, a.Pairwise (· < ·) → b.Pairwise (· < ·) → (∀ k, k ∈ a ↔ k ∈ b) → a = b
  | [], [], _, _, _ => rfl
  | [], y :: b, _, _, h => by
    have := (h y).mpr (List.mem_cons_self ..)
    cases this
  | x :: a, [], _, _, h => by
    have := (h x).mp (List.mem_cons_self ..)
    cases this
  | x :: a, y :: b, ha, hb, h => by
    obtain ⟨a1, a2⟩ := List.pairwise_cons.mp ha
    obtain ⟨b1, b2⟩ := List.pairwise_cons.mp hb
    have e : x = y := by
      rcases List.mem_cons.mp ((h x).mp (List.mem_cons_self ..)) with e | h1
      · exact e
      · rcases List.mem_cons.mp ((h y).mpr (List.mem_cons_self ..)) with e | h2
        · exact e.symm
        · have := b1 x h1
          have := a1 y h2
          omega
    subst e
    refine congrArg (x :: ·) (asc_eq a2 b2 fun k => ⟨fun hk => ?_, fun hk => ?_⟩)
    · rcases List.mem_cons.mp ((h k).mp (List.mem_cons_of_mem _ hk)) with e | h1
      · have := a1 k hk
        omega
      · exact h1
    · rcases List.mem_cons.mp ((h k).mpr (List.mem_cons_of_mem _ hk)) with e | h1
      · have := b1 k hk
        omega
      · exact h1
theorem Asc.uniq {l a b : List Int} (ha : Asc l a) (hb : Asc l b) : a = b := asc_eq ha.1 hb.1 fun k => (ha.2 k).trans (hb.2 k).symm

/-! ### votes -/
def voteC (z : Str) (m : Int) : Nat := z.cps.toList.getD m.toNat 45
abbrev Hold := List (Option Int)
def cntC (z : Str) (hs : Hold) (c : Nat) : Nat := (hs.filterMap id).countP fun m => voteC z m == c
def tlC (z : Str) (hs : Hold) : Tl := ⟨(hs.length : Int), (cntC z hs 89 : Nat), (cntC z hs 78 : Nat), (cntC z hs 80 : Nat)⟩
def tlOf (S : List Hold) (z : Str) (c : Int) : Tl := match S[c.toNat]? with
  | none => ⟨0, 0, 0, 0⟩
  | some hs => tlC z hs
def premB (z : Str) : Option Int → Bool
  | none => false
  | some m => voteC z m == 89
def parOf (L : List Int) (i : Int) : Int := L.getD i.toNat 0
theorem cntC_congr {z z' : Str} {hs : Hold} (h : ∀ m, some m ∈ hs → voteC z m = voteC z' m) (c : Nat) : cntC z hs c = cntC z' hs c := by
  unfold cntC
  refine List.countP_congr fun m hm => ?_
  obtain ⟨o, ho, e⟩ := List.mem_filterMap.mp hm
  rw [show o = some m from e] at ho
  rw [h m ho]
theorem tlC_congr {z z' : Str} {hs : Hold} (h : ∀ m, some m ∈ hs → voteC z m = voteC z' m) : tlC z hs = tlC z' hs := by
  unfold tlC
  rw [cntC_congr h 89, cntC_congr h 78, cntC_congr h 80]
theorem cntC_le (z : Str) (hs : Hold) (c : Nat) : cntC z hs c ≤ hs.length := by
  unfold cntC
  exact Nat.le_trans List.countP_le_length (List.length_filterMap_le _ _)
theorem tlOf_len {S : List Hold} {z : Str} {c : Int} {n : Nat} (h : ∀ hs ∈ S, hs.length ≤ n) : 0 ≤ (tlOf S z c).y ∧ (tlOf S z c).y ≤ n ∧ 0 ≤ (tlOf S z c).n ∧ (tlOf S z c).n ≤ n ∧ 0 ≤ (tlOf S z c).a ∧ (tlOf S z c).a ≤ n ∧ 0 ≤ (tlOf S z c).p ∧ (tlOf S z c).p ≤ n := by
  unfold tlOf
  split
  · refine ⟨?_, ?_, ?_, ?_, ?_, ?_, ?_, ?_⟩ <;> show _ ≤ _ <;> simp
  · rename_i hs e
    have hl := h hs (List.mem_of_getElem? e)
    have h1 := cntC_le z hs 89
    have h2 := cntC_le z hs 78
    have h3 := cntC_le z hs 80
    unfold tlC
    dsimp only
    refine ⟨?_, ?_, ?_, ?_, ?_, ?_, ?_, ?_⟩ <;> omega
end Gz

namespace Gz
open PySem PySem.Spec PyProof.Rows L2

/-! ### the text by places -/
def topS (i : Nat) : Stmt := PySem.Challenge.pw_gazette_k03_whole_only_named_matters.main.body.getD i (.Pass ⟨0, 0, 0, 0⟩)

/-! ### tests whose answer is known -/
theorem ifN {c A B : Prop} [Decidable c] (h : ¬ c) (b : B) : if c then A else B := by
  rw [if_neg h]
  exact b
theorem ifP {c A B : Prop} [Decidable c] (h : c) (a : A) : if c then A else B := by
  rw [if_pos h]
  exact a
theorem small {n : Nat} (h : n ≤ 1000) : n ≤ sizeLine := Nat.le_of_lt (small1000 h)

/-! ### heaps -/
theorem same_new {H : Hp} {p : Addr} (h : H p = none) (o : HO) : Same H (upd H p o) := fun b u q => by
  rw [upd_ne (ne_of_none q h)]
  exact q
/-- all that was tracked is as it was, but for what stands at t -/
def Keep (t : Addr) (H H' : Hp) : Prop := ∀ b o, b ≠ t → H b = some o → H' b = some o
theorem Keep.refl (t : Addr) (H : Hp) : Keep t H H := fun _ _ _ h => h
theorem Keep.trans {t : Addr} {H H1 H2 : Hp} (a : Keep t H H1) (b : Keep t H1 H2) : Keep t H H2 := fun c o n h => b c o n (a c o n h)
theorem Keep.of {t : Addr} {H H' : Hp} (s : Same H H') : Keep t H H' := fun b o _ h => s b o h
theorem Keep.at {t : Addr} (H : Hp) (o : HO) : Keep t H (upd H t o) := fun b u n h => by
  rw [upd_ne n]
  exact h
/-- written at a place that was not tracked at first -/
theorem Keep.back {t : Addr} {H H' : Hp} {l : Addr} (k : Keep t H H') (n : H l = none) (o : HO) : Keep t H (upd H' l o) := fun b u nb h => by
  rw [upd_ne (ne_of_none h n)]
  exact k b u nb h
theorem same_back {H H' : Hp} {l : Addr} (k : Same H H') (n : H l = none) (o : HO) : Same H (upd H' l o) := fun b u h => by
  rw [upd_ne (ne_of_none h n)]
  exact k b u h
/-- tuples stay -/
def Tups (H H' : Hp) : Prop := ∀ b xs, H b = some (.tup xs) → H' b = some (.tup xs)
theorem Tups.refl (H : Hp) : Tups H H := fun _ _ h => h
theorem Tups.trans {H H1 H2 : Hp} (a : Tups H H1) (b : Tups H1 H2) : Tups H H2 := fun c xs h => b c xs (a c xs h)
theorem Tups.same {H H' : Hp} (s : Same H H') : Tups H H' := fun b xs h => s b _ h
theorem Tups.keep {t : Addr} {H H' : Hp} {xs : List V} (e : H t = some (.lst xs)) (k : Keep t H H') : Tups H H' := fun b ys h => k b _ (ne_of h e (by intro q; cases q)) h
theorem Tups.lst {H : Hp} {l : Addr} {xs : List V} (e : H l = some (.lst xs)) (o : HO) : Tups H (upd H l o) := fun b ys h => by
  rw [upd_ne (ne_of h e (by intro q; cases q))]
  exact h
theorem Tups.fresh {H : Hp} {l : Addr} (e : H l = none) (o : HO) : Tups H (upd H l o) := Tups.same (same_new e o)

/-! ### pairs by places -/
def AllP {α β : Type} (F : α → β → Prop) (xs : List α) (ys : List β) : Prop := xs.length = ys.length ∧ ∀ (i : Nat) x y, xs[i]? = some x → ys[i]? = some y → F x y
theorem AllP.nil {α β : Type} {F : α → β → Prop} : AllP F ([] : List α) ([] : List β) := ⟨rfl, fun i x y h => by simp at h⟩
theorem AllP.mono {α β : Type} {F G : α → β → Prop} {xs : List α} {ys : List β} (h : AllP F xs ys) (k : ∀ x y, F x y → G x y) : AllP G xs ys := ⟨h.1, fun i x y a b => k x y (h.2 i x y a b)⟩
theorem AllP.get {α β : Type} {F : α → β → Prop} {xs : List α} {ys : List β} (h : AllP F xs ys) {i : Nat} {x : α} (e : xs[i]? = some x) : ∃ y, ys[i]? = some y ∧ F x y := by
  have hi : i < ys.length := by rw [← h.1]; exact (List.getElem?_eq_some_iff.mp e).1
  exact ⟨ys[i], List.getElem?_eq_getElem hi, h.2 i x _ e (List.getElem?_eq_getElem hi)⟩
theorem AllP.got {α β : Type} {F : α → β → Prop} {xs : List α} {ys : List β} (h : AllP F xs ys) {i : Nat} {y : β} (e : ys[i]? = some y) : ∃ x, xs[i]? = some x ∧ F x y := by
  have hi : i < xs.length := by rw [h.1]; exact (List.getElem?_eq_some_iff.mp e).1
  exact ⟨xs[i], List.getElem?_eq_getElem hi, h.2 i _ y (List.getElem?_eq_getElem hi) e⟩
theorem AllP.cons {α β : Type} {F : α → β → Prop} {x : α} {y : β} {xs : List α} {ys : List β} (e : F x y) (h : AllP F xs ys) : AllP F (x :: xs) (y :: ys) := by
  refine ⟨congrArg Nat.succ h.1, fun i a b h1 h2 => ?_⟩
  cases i with
  | zero =>
    have e1 : x = a := Option.some.inj h1
    have e2 : y = b := Option.some.inj h2
    rw [← e1, ← e2]
    exact e
  | succ i => exact h.2 i a b (by simpa using h1) (by simpa using h2)
theorem AllP.append {α β : Type} {F : α → β → Prop} : ∀ {xs as : List α} {ys bs : List β}, AllP F xs ys → AllP F as bs → AllP F (xs ++ as) (ys ++ bs)
  | [], _, [], _, _, k => k
  | [], _, _ :: _, _, h, _ => by have := h.1; simp at this
  | _ :: _, _, [], _, h, _ => by have := h.1; simp at this
  | x :: xs, as, y :: ys, bs, h, k => AllP.cons (h.2 0 x y rfl rfl) (AllP.append ⟨Nat.succ.inj h.1, fun i a b h1 h2 => h.2 (i + 1) a b (by simpa using h1) (by simpa using h2)⟩ k)
theorem AllP.snoc {α β : Type} {F : α → β → Prop} {x : α} {y : β} {xs : List α} {ys : List β} (h : AllP F xs ys) (e : F x y) : AllP F (xs ++ [x]) (ys ++ [y]) := h.append (AllP.cons e AllP.nil)
theorem AllP.set {α β : Type} {F : α → β → Prop} {x : α} {y : β} {xs : List α} {ys : List β} (h : AllP F xs ys) (e : F x y) (j : Nat) : AllP F (xs.set j x) (ys.set j y) := by
  refine ⟨by rw [List.length_set, List.length_set]; exact h.1, fun i a b h1 h2 => ?_⟩
  by_cases hi : j = i
  · subst hi
    have l1 : j < xs.length := by
      have := (List.getElem?_eq_some_iff.mp h1).1
      rwa [List.length_set] at this
    have l2 : j < ys.length := by rw [← h.1]; exact l1
    rw [List.getElem?_set_self l1] at h1
    rw [List.getElem?_set_self l2] at h2
    cases h1
    cases h2
    exact e
  · rw [List.getElem?_set_ne hi] at h1 h2
    exact h.2 i a b h1 h2

/-! ### data in the heap -/
def dStr : Den → Str
  | .seats => "seats"
  | .attending => "attending"
  | .voting => "voting"
def IsThr (H : Hp) (v : V) : Thr → Prop
  | .num n => v = .int n
  | .par i => ∃ a, v = .ref a ∧ H a = some (.tup [.str "parameter", .int i])
def IsRule (H : Hp) : Rule → V → Prop
  | .yeas c t, v => ∃ a u, v = .ref a ∧ H a = some (.tup [.str "yeas", .int c, u]) ∧ IsThr H u t
  | .quorum c t, v => ∃ a u, v = .ref a ∧ H a = some (.tup [.str "quorum", .int c, u]) ∧ IsThr H u t
  | .majority c d, v => ∃ a, v = .ref a ∧ H a = some (.tup [.str "majority", .int c, .str (dStr d)])
  | .fraction c p q d, v => ∃ a, v = .ref a ∧ H a = some (.tup [.str "fraction", .int c, .int p, .int q, .str (dStr d)])
  | .premier, v => ∃ a, v = .ref a ∧ H a = some (.tup [.str "premier"])
  | .all x y, v => ∃ a v1 v2, v = .ref a ∧ H a = some (.tup [.str "all", v1, v2]) ∧ IsRule H x v1 ∧ IsRule H y v2
  | .any x y, v => ∃ a v1 v2, v = .ref a ∧ H a = some (.tup [.str "any", v1, v2]) ∧ IsRule H x v1 ∧ IsRule H y v2
theorem IsThr.up {H H' : Hp} (T : Tups H H') {t : Thr} {v : V} (h : IsThr H v t) : IsThr H' v t := by
  cases t with
  | num n => exact h
  | par i =>
    obtain ⟨a, e, h⟩ := h
    exact ⟨a, e, T _ _ h⟩
theorem IsRule.up {H H' : Hp} (T : Tups H H') : ∀ {r : Rule} {v : V}, IsRule H r v → IsRule H' r v
  | .yeas c t, v, h => by
    obtain ⟨a, u, e, h1, h2⟩ := h
    exact ⟨a, u, e, T _ _ h1, h2.up T⟩
  | .quorum c t, v, h => by
    obtain ⟨a, u, e, h1, h2⟩ := h
    exact ⟨a, u, e, T _ _ h1, h2.up T⟩
  | .majority c d, v, h => by
    obtain ⟨a, e, h1⟩ := h
    exact ⟨a, e, T _ _ h1⟩
  | .fraction c p q d, v, h => by
    obtain ⟨a, e, h1⟩ := h
    exact ⟨a, e, T _ _ h1⟩
  | .premier, v, h => by
    obtain ⟨a, e, h1⟩ := h
    exact ⟨a, e, T _ _ h1⟩
  | .all x y, v, h => by
    obtain ⟨a, v1, v2, e, h1, h2, h3⟩ := h
    exact ⟨a, v1, v2, e, T _ _ h1, IsRule.up T h2, IsRule.up T h3⟩
  | .any x y, v, h => by
    obtain ⟨a, v1, v2, e, h1, h2, h3⟩ := h
    exact ⟨a, v1, v2, e, T _ _ h1, IsRule.up T h2, IsRule.up T h3⟩
/-- the numbers in a rule lie where they may -/
def Thr.Ok : Thr → Prop
  | .num _ => True
  | .par i => 0 ≤ i ∧ i < 8
def Rule.Ok : Rule → Prop
  | .yeas c t => 0 ≤ c ∧ t.Ok
  | .quorum c t => 0 ≤ c ∧ t.Ok
  | .majority c _ => 0 ≤ c
  | .fraction c p q _ => 0 ≤ c ∧ 0 ≤ p ∧ p ≤ 12 ∧ 0 ≤ q ∧ q ≤ 12
  | .premier => True
  | .all x y => x.Ok ∧ y.Ok
  | .any x y => x.Ok ∧ y.Ok
def hV : Option Int → V
  | none => .non
  | some m => .int m
def IsHold (H : Hp) (v : V) (hs : Hold) : Prop := ∃ a, v = .ref a ∧ H a = some (.tup (hs.map hV))
def IsSeats (H : Hp) (v : V) (S : List Hold) : Prop := ∃ a vs, v = .ref a ∧ H a = some (.tup vs) ∧ AllP (IsHold H) vs S
def IsInts (H : Hp) (v : V) (L : List Int) : Prop := ∃ a, v = .ref a ∧ H a = some (.tup (L.map V.int))
theorem IsHold.up {H H' : Hp} (T : Tups H H') {v : V} {hs : Hold} (h : IsHold H v hs) : IsHold H' v hs := by
  obtain ⟨a, e, h⟩ := h
  exact ⟨a, e, T _ _ h⟩
theorem IsSeats.up {H H' : Hp} (T : Tups H H') {v : V} {S : List Hold} (h : IsSeats H v S) : IsSeats H' v S := by
  obtain ⟨a, vs, e, h, k⟩ := h
  exact ⟨a, vs, e, T _ _ h, k.mono fun _ _ z => z.up T⟩
theorem IsInts.up {H H' : Hp} (T : Tups H H') {v : V} {L : List Int} (h : IsInts H v L) : IsInts H' v L := by
  obtain ⟨a, e, h⟩ := h
  exact ⟨a, e, T _ _ h⟩
/-- holders are members -/
def HoldOk (hs : Hold) : Prop := hs.length ≤ 12 ∧ ∀ m, some m ∈ hs → 0 ≤ m ∧ m < 12
def SeatsOk (S : List Hold) : Prop := S.length ≤ 4 ∧ ∀ hs ∈ S, HoldOk hs
def PremOk (m : Option Int) : Prop := ∀ k, m = some k → 0 ≤ k ∧ k < 12
/-- a roll call: at most twelve signs of four -/
def RollOk (z : Str) : Prop := z.cps.size ≤ 12 ∧ ∀ c ∈ z.cps.toList, c = 89 ∨ c = 78 ∨ c = 80 ∨ c = 45
end Gz
namespace Gz
open PySem PySem.Spec PyProof.Rows L2
/-! ### names of the module -/
structure Txt (mg : Str → Option Value) : Prop where
  len : mg "len" = none
  isi : mg "isinstance" = none
  int : mg "int" = none
  tuple : mg "tuple" = none
  sorted : mg "sorted" = none
  set : mg "set" = none
  all : mg "all" = none
  any : mg "any" = none
  list : mg "list" = none
  abs : mg "abs" = none
  max : mg "max" = none
  range : mg "range" = none
  bool : mg "bool" = none
  str : mg "str" = none
theorem b_len : bootBuiltins "len" = some (.builtin "len") := by decide +kernel
theorem b_isi : bootBuiltins "isinstance" = some (.builtin "isinstance") := by decide +kernel
theorem b_int : bootBuiltins "int" = some (.type "int") := by decide +kernel
theorem b_tuple : bootBuiltins "tuple" = some (.type "tuple") := by decide +kernel
theorem b_sorted : bootBuiltins "sorted" = some (.builtin "sorted") := by decide +kernel
theorem b_set : bootBuiltins "set" = some (.type "set") := by decide +kernel
theorem b_all : bootBuiltins "all" = some (.builtin "all") := by decide +kernel
theorem b_any : bootBuiltins "any" = some (.builtin "any") := by decide +kernel
theorem b_list : bootBuiltins "list" = some (.type "list") := by decide +kernel
theorem b_abs : bootBuiltins "abs" = some (.builtin "abs") := by decide +kernel
theorem b_max : bootBuiltins "max" = some (.builtin "max") := by decide +kernel
theorem b_bool : bootBuiltins "bool" = some (.type "bool") := by decide +kernel
theorem b_str : bootBuiltins "str" = some (.type "str") := by decide +kernel
/-- a def that keeps its promise, as its callers see it -/
structure Df (P : Program) (w : World) (K : PySem.W.Frag) (mg : Str → Option Value) (base : Heap) (x : Str) (k : Nat) (ps : List Str) (sp : Sp) (f : Addr) (fd : FuncData) : Prop where
  ok : FnOk P w K mg base CX0 k f fd ps sp
  gm : mg x = some (.ref f)
  kp : PySem.W.keepIn K (.ref f) = true
  bd : Binds K fd ps []
/-- where a def stands -/
structure At (K : PySem.W.Frag) (mg : Str → Option Value) (x : Str) (st : Stmt) (ps : List Str) (f : Addr) (fd : FuncData) : Prop where
  fn : Fun K x x st f fd
  gm : mg x = some (.ref f)
  bd : Binds K fd ps []
theorem At.df {P : Program} {w : World} {K : PySem.W.Frag} {mg : Str → Option Value} {base : Heap} {x : Str} {st : Stmt} {ps : List Str} {f : Addr} {fd : FuncData} {k : Nat} {sp : Sp} (a : At K mg x st ps f fd) (h : FnOk P w K mg base CX0 k f fd ps sp) : Df P w K mg base x k ps sp f fd := ⟨h, a.gm, a.fn.kp, a.bd⟩
section
variable {X : Cx} {k : Nat} {f : Addr} {fd : FuncData} {ps : List Str} {sp : Sp} {x : Str} {p pos : Pos} {e : Expr} {es : List Expr} {t : TA} {ta tb : TE}
theorem pd (D : Df X.prog X.w X.K X.mg X.base x k ps sp f fd) (hr : Room k X.A) (ha : PA X (e :: es) t) (hg : Gl X x := by rfl) (hdb : (x == ("__debug__" : Str)) = false := by decide)
    (he : starEach (e :: es) X.env = (false, eval e X.env) :: starEach es X.env := by rfl) (hpl : (backTo pos (starEach es X.env)).any (·.1) = false := by rfl) : PE X (.Call (.Name x p) (e :: es) [] pos) (tCall sp [] E0 t) :=
  pe_call D.ok hr hg D.gm D.kp D.bd .nil pass0 ha hdb he hpl
/-- isinstance(e, T), T a built-in class -/
def rIsB (K : PySem.W.Frag) (T : String) : List V → Hp → VK → Prop := fun xs H Q => ∃ (x : V) (a : String) (b : Bool), xs = [x, .ty T] ∧ TyX K H x (.type a) ∧ kitB a T = some b ∧ Q (.bl b) H
theorem call_isB {T : String} : CallR X (.builtin "isinstance") (rIsB X.K T) := fun pins s σ H xs us Q I r h => by
  obtain ⟨x, a, b, rfl, ty, kt, q⟩ := h
  exact call_isi pins s σ H _ us Q I r ⟨x, .ty T, .type a, .type T, b, rfl, .ty T, ty, kit_ty kt, q⟩
theorem p_isi {T : String} {y : Str} {q : Pos} {a : Expr} (M : X.mg "isinstance" = none) (hy : X.mg y = none) (hv : bootBuiltins y = some (.type T)) (ha : PE X a ta) (g1 : Gl X "isinstance" := by rfl) (g2 : Gl X y := by rfl) (hn : y ≠ "__name__" := by decide) (hd : (y == ("__debug__" : Str)) = false := by decide)
    (n1 : starEach [a, .Name y q] X.env = (false, eval a X.env) :: starEach [.Name y q] X.env := by rfl) (n2 : starEach [.Name y q] X.env = (false, eval (.Name y q) X.env) :: starEach [] X.env := by rfl) (hpl : (backTo pos (starEach [.Name y q] X.env)).any (·.1) = false := by rfl) :
    PE X (.Call (.Name "isinstance" p) [a, .Name y q] [] pos) (tCB (rIsB X.K T) (tCons ta (tCons (tC (.ty T)) tNil))) :=
  pe_callB call_isB g1 M b_isi (pa_cons ha (pa_cons (pe_bltn (v := .ty T) g2 hy hv rfl hn hd) pa_nil n2) n1) (he := n1) (hpl := hpl)
end
end Gz

namespace Gz
open PySem PySem.Spec PyProof.Rows L2

/-! ### gazette.tallies -/
abbrev sVote : Stmt := topS 1
abbrev sTally : Stmt := topS 2
theorem scVote : FnScope ["roll_call", "member"] ["roll_call", "member"] (defScope sVote) := ⟨rfl, rfl, rfl, by decide +kernel, rfl, by decide +kernel, by decide +kernel⟩
theorem scTally : FnScope ["seats", "roll_call", "chamber", "holders", "votes", "holder"] ["seats", "roll_call", "chamber"] (defScope sTally) := ⟨rfl, rfl, rfl, by decide +kernel, rfl, by decide +kernel, by decide +kernel⟩
def spVote : Sp := fun vs H Q _ => ∃ (z : Str) (m : Int), vs = [.str z, .int m] ∧ 0 ≤ m ∧ z.cps.size ≤ 12 ∧ Q (.str ⟨#[voteC z m]⟩) H
theorem str_len12 {z : Str} (h : z.cps.size ≤ 12) : z.length ≤ sizeLine := by
  show z.cps.size ≤ sizeLine
  exact small (by omega)
theorem voteC_in {z : Str} {m : Int} (h0 : 0 ≤ m) (h : m < (z.length : Int)) : atI z.cps.toList m = some (voteC z m) := by
  have hm : m.toNat < z.cps.toList.length := by
    rw [Array.length_toList]
    have : m < (z.cps.size : Int) := h
    omega
  have e : m = ((m.toNat : Nat) : Int) := by omega
  have q : atI z.cps.toList ((m.toNat : Nat) : Int) = some (voteC z m) := atI_nat (by
    unfold voteC
    rw [List.getD_eq_getElem?_getD, List.getElem?_eq_getElem hm]
    rfl)
  rw [← e] at q
  exact q
theorem voteC_out {z : Str} {m : Int} (h : ¬ m < (z.length : Int)) : voteC z m = 45 := by
  have hm : z.cps.toList.length ≤ m.toNat := by
    rw [Array.length_toList]
    have : ¬ m < (z.cps.size : Int) := h
    omega
  unfold voteC
  rw [List.getD_eq_getElem?_getD, List.getElem?_eq_none hm]
  rfl
section
variable {P : Program} {w : World} {K : PySem.W.Frag} {mg : Str → Option Value} {base : Heap} {f : Addr} {fd : FuncData}
theorem ok_vote (F : Fun K "vote_of" "vote_of" sVote f fd) (M : Txt mg) : FnOk P w K mg base CX0 1 f fd ["roll_call", "member"] spVote := by
  refine F.ok scVote (fun vs H Q E h => ?_) (fun cdv A outer s H vs Q E hr h => ?_)
  · obtain ⟨z, m, rfl, _⟩ := h
    rfl
  obtain ⟨z, m, rfl, h0, hz, q⟩ := h
  refine ⟨_, pss_cons (ps_if (pt_cmpR op_lt (pv 1) (pe_callB call_len_str rfl M.len b_len (pa_cons (pv 0) pa_nil)) (nomark _)) (pss_one (ps_ret (pe_ix ix_str (pv 0) (pv 1) (fun _ _ => rfl)))) pss_nil)
    (pss_one (ps_ret pe_str)), ?_⟩
  refine ⟨_, rfl, _, rfl, z, rfl, str_len12 hz, m, _, rfl, rfl, _, rfl, ?_⟩
  refine ite2 (fun c => ?_) (fun c => ?_)
  · exact ⟨_, rfl, _, rfl, z, m, voteC z m, rfl, rfl, str_len12 hz, voteC_in h0 (of_decide_eq_true c), q⟩
  · have e := voteC_out (z := z) (m := m) (of_decide_eq_false (Bool.eq_false_iff.mpr c))
    rw [e] at q
    exact q

def tlV (t : Tl) : List V := [.int t.n, .int t.y, .int t.a, .int t.p]
def spTally : Sp := fun vs H Q _ => ∃ (v : V) (z : Str) (c : Int) (S : List Hold), vs = [v, .str z, .int c] ∧ IsSeats H v S ∧ SeatsOk S ∧ z.cps.size ≤ 12 ∧ 0 ≤ c ∧
  ∀ (p : Addr) (H' : Hp), Same H H' → H' p = some (.tup (tlV (tlOf S z c))) → Q (.ref p) H'
theorem tlOf_none {S : List Hold} {z : Str} {c : Int} (h : S[c.toNat]? = none) : tlOf S z c = ⟨0, 0, 0, 0⟩ := by
  unfold tlOf
  rw [h]
theorem tlOf_some {S : List Hold} {z : Str} {c : Int} {hs : Hold} (h : S[c.toNat]? = some hs) : tlOf S z c = tlC z hs := by
  unfold tlOf
  rw [h]
theorem at_some {α : Type} {xs : List α} {c : Int} {x : α} (h0 : 0 ≤ c) (h : xs[c.toNat]? = some x) : atI xs c = some x := by
  have e : c = ((c.toNat : Nat) : Int) := by omega
  have q : atI xs ((c.toNat : Nat) : Int) = some x := atI_nat h
  rw [← e] at q
  exact q
abbrev vS (z : Str) (m : Int) : Str := ⟨#[voteC z m]⟩
theorem count_votes (z : Str) (k : Nat) : ∀ ms : List Int, (ms.map (vS z)).count (⟨#[k]⟩ : Str) = ms.countP fun m => voteC z m == k
  | [] => rfl
  | m :: ms => by
    have ih := count_votes z k ms
    rw [List.map_cons, List.count_cons, List.countP_cons, ih]
    have e : ((vS z m) == (⟨#[k]⟩ : Str)) = (voteC z m == k) := by
      rw [Bool.eq_iff_iff, beq_iff_eq, beq_iff_eq]
      constructor
      · intro h
        have h' : (#[voteC z m] : Array Nat) = #[k] := congrArg Str.cps h
        simpa using h'
      · intro h
        show (⟨#[voteC z m]⟩ : Str) = ⟨#[k]⟩
        rw [h]
    rw [e]
theorem ok_tally {fv : Addr} {fdv : FuncData} (F : Fun K "tally" "tally" sTally f fd) (M : Txt mg) (GV : Df P w K mg base "vote_of" 1 ["roll_call", "member"] spVote fv fdv) : FnOk P w K mg base CX0 2 f fd ["seats", "roll_call", "chamber"] spTally := by
  refine F.ok scTally (fun vs H Q E h => ?_) (fun cdv A outer s H vs Q E hr h => ?_)
  · obtain ⟨v, z, c, S, rfl, _⟩ := h
    rfl
  obtain ⟨v, z, c, S, rfl, ⟨a, vs, rfl, hA, hS⟩, ok, hz, h0, q⟩ := h
  refine ⟨_, pss_cons (ps_if (pt_cmpR op_ge (pv 2) (pe_callB call_len_seq rfl M.len b_len (pa_cons (pv 0) pa_nil)) (nomark _)) (pss_one (ps_ret (pe_tup (pa_cons pe_int (pa_cons pe_int (pa_cons pe_int (pa_cons pe_int pa_nil))))))) pss_nil)
    (pss_cons (ps_setLc (i := 3) (own := [("holder", 5)]) (g := gName 5) (by rfl) scTally.nd rfl rfl (sw_true rfl rfl rfl (by decide +kernel)) (pi_tup (pe_ix ix_tup (pv 0) (pv 2) (fun _ _ => rfl)))
      (blkOk_by (own := [("holder", 5)]) (N := ["seats", "roll_call", "chamber", "holders", "votes", "holder"]) (sc := defScope sTally) (by decide +kernel)) (fun _ _ _ _ _ => pg_name (i := 5) scTally.nd rfl (Or.inl rfl)) (fun _ _ _ _ _ => pts_one (pt_cmpR op_notN (pv 5) pe_non (nomark _))) (fun _ _ _ _ _ => pv 5))
    (pss_cons (ps_setLc (i := 4) (own := [("holder", 5)]) (g := gName 5) (by rfl) scTally.nd rfl rfl (sw_true rfl rfl rfl (by decide +kernel)) (pi_list (pv 3))
      (blkOk_by (own := [("holder", 5)]) (N := ["seats", "roll_call", "chamber", "holders", "votes", "holder"]) (sc := defScope sTally) (by decide +kernel)) (fun _ _ _ _ _ => pg_name (i := 5) scTally.nd rfl (Or.inl rfl)) (fun _ _ _ _ _ => pts_nil) (fun _ _ _ _ _ => pd GV hr (pa_cons (pv 1) (pa_cons (pv 5) pa_nil))))
    (pss_one (ps_ret (pe_tup (pa_cons (pe_callB call_len_seq rfl M.len b_len (pa_cons (pe_ix ix_tup (pv 0) (pv 2) (fun _ _ => rfl)) pa_nil))
      (pa_cons (pe_bm PySem.F.plainAttrs_list PySem.F.slot_list_count PySem.F.type_list_count mt_cntS (pv 4) (pa_cons pe_str pa_nil))
      (pa_cons (pe_bm PySem.F.plainAttrs_list PySem.F.slot_list_count PySem.F.type_list_count mt_cntS (pv 4) (pa_cons pe_str pa_nil))
      (pa_cons (pe_bm PySem.F.plainAttrs_list PySem.F.slot_list_count PySem.F.type_list_count mt_cntS (pv 4) (pa_cons pe_str pa_nil)) pa_nil))))))))), ?_⟩
  refine ⟨_, rfl, _, rfl, a, vs, rfl, .inr (SqT.of hA), c, _, rfl, rfl, _, rfl, ?_⟩
  refine ite2 (fun hc => ?_) (fun hc => ?_)
  · have hc' : (vs.length : Int) ≤ c := of_decide_eq_true hc
    have hl := hS.1
    refine ⟨(by show 4 ≤ sizeLine; decide), fun p hp => q p _ (same_new hp _) ?_⟩
    rw [tlOf_none (List.getElem?_eq_none (by omega))]
    exact upd_same
  have hc' : ¬ (vs.length : Int) ≤ c := of_decide_eq_false (Bool.eq_false_iff.mpr hc)
  have hcl : c.toNat < vs.length := by omega
  have hcs : c.toNat < S.length := by rw [← hS.1]; exact hcl
  obtain ⟨b, eb, hB⟩ := hS.2 c.toNat vs[c.toNat] S[c.toNat] (List.getElem?_eq_getElem hcl) (List.getElem?_eq_getElem hcs)
  have hok := ok.2 S[c.toNat] (List.getElem_mem hcs)
  have hat : atI vs c = some (.ref b) := at_some h0 (by rw [← eb]; exact List.getElem?_eq_getElem hcl)
  have hSc : S[c.toNat]? = some S[c.toNat] := List.getElem?_eq_getElem hcs
  generalize S[c.toNat] = hs at hB hok hSc
  rw [tlOf_some hSc] at q
  -- holders = [holder for holder in seats[chamber] if holder is not None]
  refine ⟨_, rfl, _, rfl, a, vs, c, _, rfl, rfl, SqT.of hA, hat, b, rfl, ⟨_, SqT.of hB⟩, fun D nD => ?_⟩
  refine lc_tup (K := K) (a := b) (xs := hs.map hV) (fun i H' => Same H H' ∧ H' D = some (.lst (((hs.take i).filterMap id).map V.int))) ⟨same_new nD _, upd_same⟩ (fun i H' _ h => SqT.of (h.1 _ _ hB)) ?_ ?_
  · rintro i x H1 hx ⟨s1, h1⟩
    rw [List.getElem?_map] at hx
    obtain ⟨o, ho, rfl⟩ := Option.map_eq_some_iff.mp hx
    have ht : (hs.take (i + 1)).filterMap id = (hs.take i).filterMap id ++ o.toList := by
      rw [List.take_add_one, ho, List.filterMap_append]
      cases o <;> rfl
    refine ⟨rfl, _, rfl, rfl, _, rfl, ?_⟩
    rw [ht]
    cases o with
    | none => exact ifN (by decide) ⟨s1, by rw [h1, Option.toList_none, List.append_nil]⟩
    | some m =>
      refine ifP (by rfl) ⟨_, rfl, _, h1, ?_, same_back s1 nD _, ?_⟩
      · rw [List.length_map]
        have l1 := List.length_filterMap_le id (hs.take i)
        have l2 : (hs.take i).length ≤ hs.length := List.length_take_le' i hs
        have l3 := hok.1
        exact small1000 (by omega)
      · rw [upd_same, List.map_append]
        rfl
  rintro H1 ⟨s1, h1⟩
  rw [List.length_map, List.take_length] at h1
  have hms : (hs.filterMap id).length ≤ 12 := Nat.le_trans (List.length_filterMap_le id hs) hok.1
  have hpos : ∀ m ∈ hs.filterMap id, 0 ≤ m := fun m hm => by
    obtain ⟨o, ho, e⟩ := List.mem_filterMap.mp hm
    rw [show o = some m from e] at ho
    exact (hok.2 m ho).1
  -- votes = [vote_of(roll_call, holder) for holder in holders]
  refine ⟨_, rfl, D, rfl, ⟨_, SqL.of h1⟩, fun D2 nD2 => ?_⟩
  refine lc_list (K := K) (a := D) (xs := (hs.filterMap id).map V.int) (fun i H' => Same H1 H' ∧ H' D2 = some (.lst ((((hs.filterMap id).take i).map (vS z)).map V.str))) ⟨same_new nD2 _, upd_same⟩ (fun i H' _ h => SqL.of (h.1 _ _ h1)) ?_ ?_
  · rintro i x H2 hx ⟨s2, h2⟩
    rw [List.getElem?_map] at hx
    obtain ⟨m, hm, rfl⟩ := Option.map_eq_some_iff.mp hx
    refine ⟨rfl, _, rfl, _, rfl, z, m, rfl, hpos m (List.mem_of_getElem? hm), hz, _, h2, ?_, same_back s2 nD2 _, ?_⟩
    · rw [List.length_map, List.length_map]
      have l2 : ((hs.filterMap id).take i).length ≤ (hs.filterMap id).length := List.length_take_le' i _
      exact small1000 (by omega)
    · rw [upd_same, List.take_add_one, hm]
      show some (HO.lst _) = some (HO.lst _)
      rw [List.map_append, List.map_append]
      rfl
  rintro H2 ⟨s2, h2⟩
  rw [List.length_map, List.take_length] at h2
  have sA : Same H H2 := s1.trans s2
  have hcnt : ∀ k : Nat, ((((hs.filterMap id).map (vS z)).count (⟨#[k]⟩ : Str) : Nat) : Int) = ((cntC z hs k : Nat) : Int) := fun k => by rw [count_votes]; rfl
  refine ⟨_, rfl, _, rfl, a, vs, c, _, rfl, rfl, SqT.of (sA _ _ hA), hat, b, _, rfl, .inr (SqT.of (sA _ _ hB)), ?_⟩
  refine ⟨_, rfl, .inl ⟨rfl, _, SqL.of h2⟩, D2, _, _, rfl, rfl, SqL.of h2, ?_⟩
  refine ⟨_, rfl, .inl ⟨rfl, _, SqL.of h2⟩, D2, _, _, rfl, rfl, SqL.of h2, ?_⟩
  refine ⟨_, rfl, .inl ⟨rfl, _, SqL.of h2⟩, D2, _, _, rfl, rfl, SqL.of h2, ?_⟩
  refine ⟨(by show 4 ≤ sizeLine; decide), fun p hp => q p _ (sA.trans (same_new hp _)) ?_⟩
  rw [upd_same]
  have e1 := hcnt 89
  have e2 := hcnt 78
  have e3 := hcnt 80
  show some (HO.tup [V.int (((hs.map hV).length : Nat) : Int), V.int ((((hs.filterMap id).map (vS z)).count (⟨#[89]⟩ : Str) : Nat) : Int), V.int ((((hs.filterMap id).map (vS z)).count (⟨#[78]⟩ : Str) : Nat) : Int), V.int ((((hs.filterMap id).map (vS z)).count (⟨#[80]⟩ : Str) : Nat) : Int)]) = _
  rw [e1, e2, e3, List.length_map]
  rfl
end
end Gz

namespace Gz
open PySem PySem.Spec PyProof.Rows L2

/-! ### gazette.rules -/
abbrev sThr : Stmt := topS 4
abbrev sDen : Stmt := topS 5
abbrev sBy : Stmt := topS 6
abbrev sPass : Stmt := topS 7
theorem scThr : FnScope ["threshold", "parameters", "index"] ["threshold", "parameters"] (defScope sThr) := ⟨rfl, rfl, rfl, by decide +kernel, rfl, by decide +kernel, by decide +kernel⟩
theorem scDen : FnScope ["denominator", "counted", "seats", "yeas", "nays", "present"] ["denominator", "counted"] (defScope sDen) := ⟨rfl, rfl, rfl, by decide +kernel, rfl, by decide +kernel, by decide +kernel⟩
theorem scBy : FnScope ["rule", "counted", "parameters", "seats", "yeas", "nays", "present"] ["rule", "counted", "parameters"] (defScope sBy) := ⟨rfl, rfl, rfl, by decide +kernel, rfl, by decide +kernel, by decide +kernel⟩
theorem scPass : FnScope ["rule", "seats", "roll_call", "parameters", "premier", "results", "part"] ["rule", "seats", "roll_call", "parameters", "premier"] (defScope sPass) := ⟨rfl, rfl, rfl, by decide +kernel, rfl, by decide +kernel, by decide +kernel⟩
def spThr : Sp := fun vs H Q _ => ∃ (v u : V) (t : Thr) (L : List Int), vs = [v, u] ∧ IsThr H v t ∧ t.Ok ∧ IsInts H u L ∧ Q (.int (t.val (parOf L))) H
def spDen : Sp := fun vs H Q _ => ∃ (d : Den) (a : Addr) (t : Tl), vs = [.str (dStr d), .ref a] ∧ H a = some (.tup (tlV t)) ∧ Q (.int (d.val t)) H
theorem parOf_in {L : List Int} {i : Int} (h0 : 0 ≤ i) (h : i < ((L.map V.int).length : Int)) : atI (L.map V.int) i = some (.int (parOf L i)) := by
  rw [List.length_map] at h
  have hi : i.toNat < L.length := by omega
  refine at_some h0 ?_
  rw [List.getElem?_map, List.getElem?_eq_getElem hi]
  unfold parOf
  rw [List.getD_eq_getElem?_getD, List.getElem?_eq_getElem hi]
  rfl
theorem parOf_out {L : List Int} {i : Int} (h : ¬ i < ((L.map V.int).length : Int)) : parOf L i = 0 := by
  rw [List.length_map] at h
  have hi : L.length ≤ i.toNat := by omega
  unfold parOf
  rw [List.getD_eq_getElem?_getD, List.getElem?_eq_none hi]
  rfl
section
variable {P : Program} {w : World} {K : PySem.W.Frag} {mg : Str → Option Value} {base : Heap} {f : Addr} {fd : FuncData}
theorem ok_thr (F : Fun K "threshold_value" "threshold_value" sThr f fd) (M : Txt mg) : FnOk P w K mg base CX0 1 f fd ["threshold", "parameters"] spThr := by
  refine F.ok scThr (fun vs H Q E h => ?_) (fun cdv A outer s H vs Q E hr h => ?_)
  · obtain ⟨v, u, t, L, rfl, _⟩ := h
    rfl
  obtain ⟨v, u, t, L, rfl, ht, ok, ⟨b, rfl, hB⟩, q⟩ := h
  refine ⟨_, pss_cons (ps_if (pt_val (p_isi M.isi M.int b_int (pv 0))) (pss_one (ps_ret (pv 0))) pss_nil)
    (pss_cons (ps_set (i := 2) scThr.nd rfl (.inl rfl) (pe_ix ix_tup (pv 0) pe_int (fun _ _ => rfl)))
    (pss_cons (ps_if (pt_cmpR op_lt (pv 2) (pe_callB call_len_seq rfl M.len b_len (pa_cons (pv 1) pa_nil)) (nomark _)) (pss_one (ps_ret (pe_ix ix_tup (pv 1) (pv 2) (fun _ _ => rfl)))) pss_nil)
    (pss_one (ps_ret pe_int)))), ?_⟩
  cases t with
  | num n =>
    cases (show v = .int n from ht)
    exact ⟨_, rfl, _, _, true, rfl, .base (.int n), by decide +kernel, _, rfl, ifP rfl ⟨_, rfl, q⟩⟩
  | par i =>
    obtain ⟨a, rfl, hA⟩ := ht
    have h0 : 0 ≤ i := ok.1
    refine ⟨_, rfl, _, _, false, rfl, .base (.tup hA), by decide +kernel, _, rfl, ifN (by decide) ?_⟩
    refine ⟨_, rfl, a, _, 1, .int i, rfl, rfl, SqT.of hA, rfl, ?_⟩
    refine ⟨_, rfl, _, rfl, b, _, rfl, .inr (SqT.of hB), i, _, rfl, rfl, _, rfl, ?_⟩
    refine ite2 (fun c => ?_) (fun c => ?_)
    · exact ⟨_, rfl, _, rfl, b, _, i, _, rfl, rfl, SqT.of hB, parOf_in h0 (of_decide_eq_true c), q⟩
    · have e := parOf_out (L := L) (i := i) (of_decide_eq_false (Bool.eq_false_iff.mpr c))
      have q2 : Q (.int (parOf L i)) H := q
      rw [e] at q2
      exact q2
theorem ok_den (F : Fun K "denominator_value" "denominator_value" sDen f fd) : FnOk P w K mg base CX0 1 f fd ["denominator", "counted"] spDen := by
  refine F.ok scDen (fun vs H Q E h => ?_) (fun cdv A outer s H vs Q E hr h => ?_)
  · obtain ⟨d, a, t, rfl, _⟩ := h
    rfl
  obtain ⟨d, a, t, rfl, hA, q⟩ := h
  refine ⟨_, pss_cons (ps_asg (pv 1) (pg_tup (by rfl) (pgs_cons (pg_name (i := 2) scDen.nd rfl (.inl rfl)) (pgs_cons (pg_name (i := 3) scDen.nd rfl (.inl rfl)) (pgs_cons (pg_name (i := 4) scDen.nd rfl (.inl rfl)) (pgs_cons (pg_name (i := 5) scDen.nd rfl (.inl rfl)) pgs_nil))))))
    (pss_cons (ps_if (pt_cmpR op_eq (pv 0) pe_str (nomark _)) (pss_one (ps_ret (pv 2))) pss_nil)
    (pss_cons (ps_if (pt_cmpR op_eq (pv 0) pe_str (nomark _)) (pss_one (ps_ret (pe_op op_add (pe_op op_add (pv 3) (pv 4)) (pv 5)))) pss_nil)
    (pss_one (ps_ret (pe_op op_add (pv 3) (pv 4)))))), ?_⟩
  refine ⟨_, rfl, a, _, rfl, SqT.of hA, rfl, _, _, rfl, _, _, rfl, _, _, rfl, _, _, rfl, rfl, ?_⟩
  cases d with
  | seats => exact ⟨_, rfl, rfl, _, rfl, ifP (by decide +kernel) ⟨_, rfl, q⟩⟩
  | attending => exact ⟨_, rfl, rfl, _, rfl, ifN (by decide +kernel) ⟨_, rfl, rfl, _, rfl, ifP (by decide +kernel) ⟨_, rfl, _, rfl, _, _, rfl, rfl, _, rfl, _, _, rfl, rfl, q⟩⟩⟩
  | voting => exact ⟨_, rfl, rfl, _, rfl, ifN (by decide +kernel) ⟨_, rfl, rfl, _, rfl, ifN (by decide +kernel) ⟨_, rfl, _, rfl, _, _, rfl, rfl, q⟩⟩⟩

/-- a tally's counts are small -/
def TlOk (t : Tl) : Prop := (0 ≤ t.n ∧ t.n ≤ 12) ∧ (0 ≤ t.y ∧ t.y ≤ 12) ∧ (0 ≤ t.a ∧ t.a ≤ 12) ∧ 0 ≤ t.p ∧ t.p ≤ 12
theorem Den.val_ok {t : Tl} (h : TlOk t) (d : Den) : 0 ≤ d.val t ∧ d.val t ≤ 36 := by
  obtain ⟨h1, h2, h3, h4⟩ := h
  cases d with
  | seats => show 0 ≤ t.n ∧ t.n ≤ 36; omega
  | attending => show 0 ≤ t.y + t.a + t.p ∧ t.y + t.a + t.p ≤ 36; omega
  | voting => show 0 ≤ t.y + t.a ∧ t.y + t.a ≤ 36; omega
theorem cmul_small {i j : Int} (h0 : 0 ≤ j) (h : j ≤ 1000) : CMul i j := .inr ⟨by omega, by omega⟩
def spBy : Sp := fun vs H Q _ => ∃ (r : Rule) (v u : V) (a : Addr) (t : Tl) (L : List Int), vs = [v, .ref a, u] ∧ IsRule H r v ∧ r.Ok ∧ r.simple ∧ H a = some (.tup (tlV t)) ∧ TlOk t ∧ IsInts H u L ∧ Q (.bl (r.one t (parOf L) false)) H
theorem ok_by {ft fe : Addr} {fdt fde : FuncData} (F : Fun K "passes_by_tally" "passes_by_tally" sBy f fd) (GT : Df P w K mg base "threshold_value" 1 ["threshold", "parameters"] spThr ft fdt) (GD : Df P w K mg base "denominator_value" 1 ["denominator", "counted"] spDen fe fde) :
    FnOk P w K mg base CX0 2 f fd ["rule", "counted", "parameters"] spBy := by
  refine F.ok scBy (fun vs H Q E h => ?_) (fun cdv A outer s H vs Q E hr h => ?_)
  · obtain ⟨r, v, u, a, t, L, rfl, _⟩ := h
    rfl
  obtain ⟨r, v, u, a, t, L, rfl, hR, ok, sm, hA, tk, hL, q⟩ := h
  refine ⟨_, pss_cons (ps_asg (pv 1) (pg_tup (by rfl) (pgs_cons (pg_name (i := 3) scBy.nd rfl (.inl rfl)) (pgs_cons (pg_name (i := 4) scBy.nd rfl (.inl rfl)) (pgs_cons (pg_name (i := 5) scBy.nd rfl (.inl rfl)) (pgs_cons (pg_name (i := 6) scBy.nd rfl (.inl rfl)) pgs_nil))))))
    (pss_cons (ps_if (pt_cmpR op_eq (pe_ix ix_tup (pv 0) pe_int (fun _ _ => rfl)) pe_str (nomark _)) (pss_one (ps_ret (pe_cmpR op_ge (pv 4) (pd GT hr (pa_cons (pe_ix ix_tup (pv 0) pe_int (fun _ _ => rfl)) (pa_cons (pv 2) pa_nil))) (nomark _)))) pss_nil)
    (pss_cons (ps_if (pt_cmpR op_eq (pe_ix ix_tup (pv 0) pe_int (fun _ _ => rfl)) pe_str (nomark _)) (pss_one (ps_ret (pe_cmpR op_gt (pe_op op_mul pe_int (pv 4)) (pd GD hr (pa_cons (pe_ix ix_tup (pv 0) pe_int (fun _ _ => rfl)) (pa_cons (pv 1) pa_nil))) (nomark _)))) pss_nil)
    (pss_cons (ps_if (pt_cmpR op_eq (pe_ix ix_tup (pv 0) pe_int (fun _ _ => rfl)) pe_str (nomark _)) (pss_one (ps_ret (pe_cmpR op_ge (pe_op op_mul (pe_ix ix_tup (pv 0) pe_int (fun _ _ => rfl)) (pv 4)) (pe_op op_mul (pe_ix ix_tup (pv 0) pe_int (fun _ _ => rfl)) (pd GD hr (pa_cons (pe_ix ix_tup (pv 0) pe_int (fun _ _ => rfl)) (pa_cons (pv 1) pa_nil)))) (nomark _)))) pss_nil)
    (pss_one (ps_ret (pe_cmpR op_ge (pe_op op_add (pe_op op_add (pv 4) (pv 5)) (pv 6)) (pd GT hr (pa_cons (pe_ix ix_tup (pv 0) pe_int (fun _ _ => rfl)) (pa_cons (pv 2) pa_nil))) (nomark _))))))), ?_⟩
  refine ⟨_, rfl, a, _, rfl, SqT.of hA, rfl, _, _, rfl, _, _, rfl, _, _, rfl, _, _, rfl, rfl, ?_⟩
  cases r with
  | yeas c h =>
    obtain ⟨b, x, rfl, hB, hX⟩ := hR
    refine ⟨_, rfl, b, _, 0, _, rfl, rfl, SqT.of hB, rfl, rfl, _, rfl, ifP (by decide +kernel) ?_⟩
    exact ⟨_, rfl, _, rfl, b, _, 2, x, rfl, rfl, SqT.of hB, rfl, _, rfl, x, _, h, L, rfl, hX, ok.2, hL, _, _, rfl, rfl, q⟩
  | quorum c h =>
    obtain ⟨b, x, rfl, hB, hX⟩ := hR
    refine ⟨_, rfl, b, _, 0, _, rfl, rfl, SqT.of hB, rfl, rfl, _, rfl, ifN (by decide +kernel) ?_⟩
    refine ⟨_, rfl, b, _, 0, _, rfl, rfl, SqT.of hB, rfl, rfl, _, rfl, ifN (by decide +kernel) ?_⟩
    refine ⟨_, rfl, b, _, 0, _, rfl, rfl, SqT.of hB, rfl, rfl, _, rfl, ifN (by decide +kernel) ?_⟩
    exact ⟨_, rfl, _, rfl, _, _, rfl, rfl, _, rfl, _, _, rfl, rfl, _, rfl, b, _, 2, x, rfl, rfl, SqT.of hB, rfl, _, rfl, x, _, h, L, rfl, hX, ok.2, hL, _, _, rfl, rfl, q⟩
  | majority c d =>
    obtain ⟨b, rfl, hB⟩ := hR
    refine ⟨_, rfl, b, _, 0, _, rfl, rfl, SqT.of hB, rfl, rfl, _, rfl, ifN (by decide +kernel) ?_⟩
    refine ⟨_, rfl, b, _, 0, _, rfl, rfl, SqT.of hB, rfl, rfl, _, rfl, ifP (by decide +kernel) ?_⟩
    exact ⟨_, rfl, _, _, rfl, rfl, .inl ⟨by decide, by decide⟩, _, rfl, b, _, 2, _, rfl, rfl, SqT.of hB, rfl, _, rfl, d, a, t, rfl, hA, _, _, rfl, rfl, q⟩
  | fraction c p qq d =>
    obtain ⟨b, rfl, hB⟩ := hR
    refine ⟨_, rfl, b, _, 0, _, rfl, rfl, SqT.of hB, rfl, rfl, _, rfl, ifN (by decide +kernel) ?_⟩
    refine ⟨_, rfl, b, _, 0, _, rfl, rfl, SqT.of hB, rfl, rfl, _, rfl, ifN (by decide +kernel) ?_⟩
    refine ⟨_, rfl, b, _, 0, _, rfl, rfl, SqT.of hB, rfl, rfl, _, rfl, ifP (by decide +kernel) ?_⟩
    have h1 := tk.2.1
    have h2 := Den.val_ok tk d
    exact ⟨_, rfl, b, _, 3, _, rfl, rfl, SqT.of hB, rfl, _, rfl, _, _, rfl, rfl, cmul_small h1.1 (by omega), _, rfl, b, _, 2, _, rfl, rfl, SqT.of hB, rfl,
      _, rfl, b, _, 4, _, rfl, rfl, SqT.of hB, rfl, _, rfl, d, a, t, rfl, hA, _, _, rfl, rfl, cmul_small h2.1 (by omega), _, _, rfl, rfl, q⟩
  | premier => exact sm.elim
  | all x y => exact sm.elim
  | any x y => exact sm.elim
end
end Gz

namespace Gz
open PySem PySem.Spec PyProof.Rows L2

def Rule.kind : Rule → Str
  | .yeas _ _ => "yeas"
  | .quorum _ _ => "quorum"
  | .majority _ _ => "majority"
  | .fraction _ _ _ _ => "fraction"
  | .premier => "premier"
  | .all _ _ => "all"
  | .any _ _ => "any"
theorem simple_head {H : Hp} {r : Rule} {v : V} (sm : r.simple) (ok : r.Ok) (h : IsRule H r v) : ∃ (b : Addr) (c : Int) (t : List V), v = .ref b ∧ H b = some (.tup (.str r.kind :: .int c :: t)) ∧ r.ch = some c ∧ 0 ≤ c := by
  cases r with
  | yeas c u =>
    obtain ⟨a, x, e, h, _⟩ := h
    exact ⟨a, c, [x], e, h, rfl, ok.1⟩
  | quorum c u =>
    obtain ⟨a, x, e, h, _⟩ := h
    exact ⟨a, c, [x], e, h, rfl, ok.1⟩
  | majority c d =>
    obtain ⟨a, e, h⟩ := h
    exact ⟨a, c, _, e, h, rfl, ok⟩
  | fraction c p q d =>
    obtain ⟨a, e, h⟩ := h
    exact ⟨a, c, _, e, h, rfl, ok.1⟩
  | premier => exact sm.elim
  | all x y => exact sm.elim
  | any x y => exact sm.elim
theorem simple_noprem {r : Rule} (sm : r.simple) : ¬ decide (V.str r.kind = V.str "premier") = true := by
  cases r with
  | yeas c u => exact (by decide +kernel : ¬ decide (V.str "yeas" = V.str "premier") = true)
  | quorum c u => exact (by decide +kernel : ¬ decide (V.str "quorum" = V.str "premier") = true)
  | majority c d => exact (by decide +kernel : ¬ decide (V.str "majority" = V.str "premier") = true)
  | fraction c p q d => exact (by decide +kernel : ¬ decide (V.str "fraction" = V.str "premier") = true)
  | premier => exact sm.elim
  | all x y => exact sm.elim
  | any x y => exact sm.elim
theorem simple_noall {r : Rule} (sm : r.simple) : ¬ inV (V.str r.kind) [.str "all", .str "any"] = true := by
  cases r with
  | yeas c u => exact (by decide +kernel : ¬ inV (V.str "yeas") [.str "all", .str "any"] = true)
  | quorum c u => exact (by decide +kernel : ¬ inV (V.str "quorum") [.str "all", .str "any"] = true)
  | majority c d => exact (by decide +kernel : ¬ inV (V.str "majority") [.str "all", .str "any"] = true)
  | fraction c p q d => exact (by decide +kernel : ¬ inV (V.str "fraction") [.str "all", .str "any"] = true)
  | premier => exact sm.elim
  | all x y => exact sm.elim
  | any x y => exact sm.elim
theorem simple_pass {T : Int → Tl} {L : Int → Int} {m : Bool} {r : Rule} {c : Int} (sm : r.simple) (h : r.ch = some c) : r.pass T L m = r.one (T c) L false := by
  cases r with
  | yeas c u => cases h; rfl
  | quorum c u => cases h; rfl
  | majority c d => cases h; rfl
  | fraction c p q d => cases h; rfl
  | premier => exact sm.elim
  | all x y => exact sm.elim
  | any x y => exact sm.elim
/-- a rule of two parts -/
structure Two (H : Hp) (r x y : Rule) (v : V) (a : Addr) (v1 v2 : V) : Prop where
  eq : r = .all x y ∨ r = .any x y
  vr : v = .ref a
  at_ : H a = some (.tup [.str r.kind, v1, v2])
  h1 : IsRule H x v1
  h2 : IsRule H y v2
  ok1 : x.Ok
  ok2 : y.Ok
  d1 : x.depth < r.depth
  d2 : y.depth < r.depth
  sims : r.simples = x.simples ++ y.simples
  lvs : r.leaves = x.leaves ++ y.leaves
theorem rule_cases {H : Hp} {r : Rule} {v : V} (h : IsRule H r v) (ok : r.Ok) : r.simple ∨ r = .premier ∨ ∃ x y a v1 v2, Two H r x y v a v1 v2 := by
  cases r with
  | yeas c u => exact .inl trivial
  | quorum c u => exact .inl trivial
  | majority c d => exact .inl trivial
  | fraction c p q d => exact .inl trivial
  | premier => exact .inr (.inl rfl)
  | all x y =>
    obtain ⟨a, v1, v2, e, h, h1, h2⟩ := h
    exact .inr (.inr ⟨x, y, a, v1, v2, .inl rfl, e, h, h1, h2, ok.1, ok.2, Nat.lt_succ_of_le (Nat.le_max_left _ _), Nat.lt_succ_of_le (Nat.le_max_right _ _), rfl, rfl⟩)
  | any x y =>
    obtain ⟨a, v1, v2, e, h, h1, h2⟩ := h
    exact .inr (.inr ⟨x, y, a, v1, v2, .inr rfl, e, h, h1, h2, ok.1, ok.2, Nat.lt_succ_of_le (Nat.le_max_left _ _), Nat.lt_succ_of_le (Nat.le_max_right _ _), rfl, rfl⟩)
theorem Two.noprem {H : Hp} {r x y : Rule} {v : V} {a : Addr} {v1 v2 : V} (t : Two H r x y v a v1 v2) : ¬ decide (V.str r.kind = V.str "premier") = true := by
  rcases t.eq with e | e
  · rw [e]
    exact (by decide +kernel : ¬ decide (V.str "all" = V.str "premier") = true)
  · rw [e]
    exact (by decide +kernel : ¬ decide (V.str "any" = V.str "premier") = true)
theorem Two.isin {H : Hp} {r x y : Rule} {v : V} {a : Addr} {v1 v2 : V} (t : Two H r x y v a v1 v2) : inV (V.str r.kind) [.str "all", .str "any"] = true := by
  rcases t.eq with e | e
  · rw [e]
    exact (by decide +kernel : inV (V.str "all") [.str "all", .str "any"] = true)
  · rw [e]
    exact (by decide +kernel : inV (V.str "any") [.str "all", .str "any"] = true)
theorem at0 {α : Type} {x : α} {t : List α} : atI (x :: t) 0 = some x := at_some (by omega) rfl
theorem at1 {α : Type} {x y : α} {t : List α} : atI (x :: y :: t) 1 = some y := at_some (by omega) rfl
theorem tl_ok {S : List Hold} {z : Str} {c : Int} (h : SeatsOk S) : TlOk (tlOf S z c) := by
  have q := tlOf_len (S := S) (z := z) (c := c) (n := 12) fun hs hm => (h.2 hs hm).1
  unfold TlOk
  omega
/-- two parts of a rule -/
theorem two_get {α β : Type} {F : α → β → Prop} {a b : α} {x y : β} (h1 : F a x) (h2 : F b y) : AllP F [a, b] [x, y] := AllP.cons h1 (AllP.cons h2 AllP.nil)

def spPass (n : Nat) : Sp := fun vs H Q _ => ∃ (r : Rule) (v vS vL : V) (S : List Hold) (z : Str) (L : List Int) (m : Option Int), vs = [v, vS, .str z, vL, hV m] ∧ IsRule H r v ∧ r.Ok ∧ r.depth < n ∧ IsSeats H vS S ∧ SeatsOk S ∧ z.cps.size ≤ 12 ∧ IsInts H vL L ∧ PremOk m ∧
  ∀ H', Same H H' → Q (.bl (r.pass (tlOf S z) (parOf L) (premB z m))) H'
abbrev psPass : List Str := ["rule", "seats", "roll_call", "parameters", "premier"]
theorem vote_is {z : Str} {m : Int} {k : Nat} : decide (V.str (⟨#[voteC z m]⟩ : Str) = V.str ⟨#[k]⟩) = (voteC z m == k) := by
  rw [Bool.eq_iff_iff, decide_eq_true_iff, beq_iff_eq]
  constructor
  · intro h
    have h1 : (⟨#[voteC z m]⟩ : Str) = ⟨#[k]⟩ := V.str.inj h
    have h' : (#[voteC z m] : Array Nat) = #[k] := congrArg Str.cps h1
    simpa using h'
  · intro h
    rw [h]
section
variable {P : Program} {w : World} {K : PySem.W.Frag} {mg : Str → Option Value} {base : Heap} {f : Addr} {fd : FuncData}
theorem pass_step {n : Nat} {fv ft fb : Addr} {fdv fdt fdb : FuncData} (F : Fun K "passes" "passes" sPass f fd) (M : Txt mg) (GV : Df P w K mg base "vote_of" 1 ["roll_call", "member"] spVote fv fdv) (GT : Df P w K mg base "tally" 2 ["seats", "roll_call", "chamber"] spTally ft fdt)
    (GB : Df P w K mg base "passes_by_tally" 2 ["rule", "counted", "parameters"] spBy fb fdb) (gm : mg "passes" = some (.ref f)) (kb : KBn K fd psPass 3 ["parameters", "premier"] (fun us ws => us ++ ws) (fun vs zs => vs ++ zs))
    (G : FnOk P w K mg base CX0 (n + 2) f fd psPass (spPass n)) : FnOk P w K mg base CX0 (n + 3) f fd psPass (spPass (n + 1)) := by
  refine F.ok scPass (fun vs H Q E h => ?_) (fun cdv A outer s H vs Q E hr h => ?_)
  · obtain ⟨r, v, vS, vL, S, z, L, m, rfl, _⟩ := h
    rfl
  obtain ⟨r, v, vS, vL, S, z, L, m, rfl, hR, ok, dep, hS, okS, hz, hL, pm, q⟩ := h
  have hr1 : Room 1 _ := hr.mono (by omega)
  have hr2 : Room 2 _ := hr.mono (by omega)
  refine ⟨_, pss_cons (ps_if (pt_cmpR op_eq (pe_ix ix_tup (pv 0) pe_int (fun _ _ => rfl)) pe_str (nomark _)) (pss_one (ps_ret (pe_and (pe_cmp (pc_notN (pv 4)) rfl) (pe_one (pe_cmpR op_eq (pd GV hr1 (pa_cons (pv 2) (pa_cons (pv 4) pa_nil))) pe_str (nomark _)))))) pss_nil)
    (pss_cons (ps_if (pt_cmpR op_in_seq (pe_ix ix_tup (pv 0) pe_int (fun _ _ => rfl)) (pe_tup (pa_cons pe_str (pa_cons pe_str pa_nil))) rfl)
      (pss_cons (ps_setLc (i := 5) (own := [("part", 6)]) (g := gName 6) (by rfl) scPass.nd rfl rfl (sw_true rfl rfl rfl (by decide +kernel)) (pi_tup (pe_slice sl_tup (pv 0) (po_some pe_int) po_none))
        (blkOk_by (own := [("part", 6)]) (N := ["rule", "seats", "roll_call", "parameters", "premier", "results", "part"]) (sc := defScope sPass) (by decide +kernel)) (fun _ _ _ _ _ => pg_name (i := 6) scPass.nd rfl (Or.inl rfl)) (fun _ _ _ _ _ => pts_nil)
        (fun _ _ _ _ _ => pe_callN G hr (by rfl) gm F.kp kb pass0 (pa_cons (pv 6) (pa_cons (pv 1) (pa_cons (pv 2) pa_nil))) (pk_cons (pv 3) (pk_cons (pv 4) pk_nil))))
      (pss_cons (ps_if (pt_cmpR op_eq (pe_ix ix_tup (pv 0) pe_int (fun _ _ => rfl)) pe_str (nomark _)) (pss_one (ps_ret (pe_callB (cr_all rfl) rfl M.all b_all (pa_cons (pv 5) pa_nil)))) pss_nil)
      (pss_one (ps_ret (pe_callB (cr_any rfl) rfl M.any b_any (pa_cons (pv 5) pa_nil)))))) pss_nil)
    (pss_one (ps_ret (pd GB hr2 (pa_cons (pv 0) (pa_cons (pd GT hr2 (pa_cons (pv 1) (pa_cons (pv 2) (pa_cons (pe_ix ix_tup (pv 0) pe_int (fun _ _ => rfl)) pa_nil)))) (pa_cons (pv 3) pa_nil))))))), ?_⟩
  rcases rule_cases hR ok with sm | rfl | ⟨x, y, a, v1, v2, t⟩
  · -- a rule of one piece
    obtain ⟨b, c, rest, rfl, hB, hc, h0⟩ := simple_head sm ok hR
    refine ⟨_, rfl, b, _, 0, _, rfl, rfl, SqT.of hB, at0, rfl, _, rfl, ifN (simple_noprem sm) ?_⟩
    refine ⟨_, rfl, b, _, 0, _, rfl, rfl, SqT.of hB, at0, (by show 2 ≤ sizeLine; decide), fun p hp => ⟨p, _, rfl, .inr (SqT.of upd_same), rfl, rfl, _, rfl, ifN (simple_noall sm) ?_⟩⟩
    have s1 : Same H (upd H p (.tup [.str "all", .str "any"])) := same_new hp _
    have t1 := Tups.same s1
    refine ⟨_, rfl, _, rfl, _, rfl, _, rfl, b, _, 1, _, rfl, rfl, SqT.of (s1 _ _ hB), at1, vS, z, c, S, rfl, hS.up t1, okS, hz, h0, fun p2 H2 s2 e2 => ?_⟩
    have t2 := t1.trans (Tups.same s2)
    refine ⟨_, rfl, r, _, vL, p2, tlOf S z c, L, rfl, hR.up t2, ok, sm, e2, tl_ok okS, hL.up t2, ?_⟩
    have g := q H2 (s1.trans s2)
    rw [simple_pass sm hc] at g
    exact g
  · -- the premier
    obtain ⟨b, rfl, hB⟩ := hR
    refine ⟨_, rfl, b, _, 0, _, rfl, rfl, SqT.of hB, rfl, rfl, _, rfl, ifP (by decide +kernel) ?_⟩
    have g := q H (Same.refl H)
    cases m with
    | none => exact ⟨_, rfl, _, rfl, ifN (by decide) g⟩
    | some k =>
      refine ⟨_, rfl, _, rfl, ifP rfl ⟨_, rfl, _, rfl, z, k, rfl, (pm k rfl).1, hz, rfl, ?_⟩⟩
      have e : V.bl (decide (V.str (⟨#[voteC z k]⟩ : Str) = V.str ⟨#[89]⟩)) = V.bl (voteC z k == 89) := congrArg V.bl vote_is
      exact e ▸ g
  · -- two parts
    obtain rfl := t.vr
    have hA := t.at_
    refine ⟨_, rfl, a, _, 0, _, rfl, rfl, SqT.of hA, rfl, rfl, _, rfl, ifN t.noprem ?_⟩
    refine ⟨_, rfl, a, _, 0, _, rfl, rfl, SqT.of hA, rfl, (by show 2 ≤ sizeLine; decide), fun p hp => ⟨p, _, rfl, .inr (SqT.of upd_same), rfl, rfl, _, rfl, ifP t.isin ?_⟩⟩
    have s1 : Same H (upd H p (.tup [.str "all", .str "any"])) := same_new hp _
    refine ⟨_, rfl, 1, rfl, a, _, rfl, SqT.of (s1 _ _ hA), (by show ¬ (HT.sIx 3 0 (some 1) = 0 ∧ HT.sIx 3 3 none = 3); decide), fun p2 hp2 => ⟨p2, rfl, ⟨_, SqT.of upd_same⟩, fun D nD => ?_⟩⟩
    have s2 := s1.trans (same_new hp2 (.tup (cutV [.str r.kind, v1, v2] (some 1) none)))
    have eP : (upd (upd H p (.tup [.str "all", .str "any"])) p2 (.tup (cutV [.str r.kind, v1, v2] (some 1) none))) p2 = some (.tup [v1, v2]) := upd_same
    have two : AllP (fun e r' => IsRule H r' e ∧ r'.Ok ∧ r'.depth < n) [v1, v2] [x, y] := two_get ⟨t.h1, t.ok1, by have := t.d1; omega⟩ ⟨t.h2, t.ok2, by have := t.d2; omega⟩
    generalize upd (upd H p (.tup [.str "all", .str "any"])) p2 (.tup (cutV [.str r.kind, v1, v2] (some 1) none)) = H0 at s2 eP nD ⊢
    refine lc_tup (K := K) (a := p2) (xs := [v1, v2]) (fun i H' => Same H0 H' ∧ H' D = some (.lst ((([x, y].take i).map fun r' => r'.pass (tlOf S z) (parOf L) (premB z m)).map V.bl))) ⟨same_new nD _, upd_same⟩ (fun i H' _ h => SqT.of (h.1 _ _ eP)) ?_ ?_
    · rintro i e H1 he ⟨s3, h3⟩
      obtain ⟨r', hr', hR', ok', dep'⟩ := two.get he
      have t3 := Tups.same (s2.trans s3)
      refine ⟨rfl, _, rfl, _, rfl, _, rfl, _, rfl, _, rfl, rfl, rfl, r', e, vS, vL, S, z, L, m, rfl, hR'.up t3, ok', dep', hS.up t3, okS, hz, hL.up t3, pm, fun H2 s4 => ⟨_, s4 _ _ h3, ?_, same_back (s3.trans s4) nD _, ?_⟩⟩
      · rw [List.length_map, List.length_map]
        have l2 : ([x, y].take i).length ≤ [x, y].length := List.length_take_le' i _
        have l3 : [x, y].length = 2 := rfl
        exact small1000 (by omega)
      · rw [upd_same, List.take_add_one, hr', List.map_append, List.map_append]
        rfl
    rintro H1 ⟨s3, h3⟩
    have s4 := s2.trans s3
    have e3 : H1 D = some (.lst ([x.pass (tlOf S z) (parOf L) (premB z m), y.pass (tlOf S z) (parOf L) (premB z m)].map V.bl)) := h3
    have g := q H1 s4
    rcases t.eq with rfl | rfl
    · refine ⟨_, rfl, a, _, 0, _, rfl, rfl, SqT.of (s4 _ _ hA), rfl, rfl, _, rfl, ifP (by show decide (V.str "all" = V.str "all") = true; decide +kernel) ?_⟩
      refine ⟨_, rfl, D, _, rfl, SqL.of e3, ?_⟩
      have e : [x.pass (tlOf S z) (parOf L) (premB z m), y.pass (tlOf S z) (parOf L) (premB z m)].all id = (Rule.all x y).pass (tlOf S z) (parOf L) (premB z m) := by
        show (x.pass _ _ _ && (y.pass _ _ _ && true)) = (x.pass _ _ _ && y.pass _ _ _)
        rw [Bool.and_true]
      rw [e]
      exact g
    · refine ⟨_, rfl, a, _, 0, _, rfl, rfl, SqT.of (s4 _ _ hA), rfl, rfl, _, rfl, ifN (by show ¬ decide (V.str "any" = V.str "all") = true; decide +kernel) ?_⟩
      refine ⟨_, rfl, D, _, rfl, SqL.of e3, ?_⟩
      have e : [x.pass (tlOf S z) (parOf L) (premB z m), y.pass (tlOf S z) (parOf L) (premB z m)].any id = (Rule.any x y).pass (tlOf S z) (parOf L) (premB z m) := by
        show (x.pass _ _ _ || (y.pass _ _ _ || false)) = (x.pass _ _ _ || y.pass _ _ _)
        rw [Bool.or_false]
      rw [e]
      exact g
theorem pass_none {k : Nat} : FnOk P w K mg base CX0 k f fd psPass (spPass 0) := by
  have no : ∀ vs H Q E, ¬ spPass 0 vs H Q E := fun vs H Q E h => by
    obtain ⟨r, v, vS, vL, S, z, L, m, _, _, _, dep, _⟩ := h
    omega
  exact ⟨fun vs H Q E h => absurd h (no vs H Q E), fun A outer s H args us vs Q E _ _ _ _ h => absurd h (no vs H Q E)⟩
theorem ok_pass {fv ft fb : Addr} {fdv fdt fdb : FuncData} (F : Fun K "passes" "passes" sPass f fd) (M : Txt mg) (GV : Df P w K mg base "vote_of" 1 ["roll_call", "member"] spVote fv fdv) (GT : Df P w K mg base "tally" 2 ["seats", "roll_call", "chamber"] spTally ft fdt)
    (GB : Df P w K mg base "passes_by_tally" 2 ["rule", "counted", "parameters"] spBy fb fdb) (gm : mg "passes" = some (.ref f)) (kb : KBn K fd psPass 3 ["parameters", "premier"] (fun us ws => us ++ ws) (fun vs zs => vs ++ zs)) :
    ∀ n : Nat, FnOk P w K mg base CX0 (n + 2) f fd psPass (spPass n)
  | 0 => pass_none
  | n + 1 => pass_step F M GV GT GB gm kb (ok_pass F M GV GT GB gm kb n)
theorem kb_pass (F : Fun K "passes" "passes" sPass f fd) : KBn K fd psPass 3 ["parameters", "premier"] (fun us ws => us ++ ws) (fun vs zs => vs ++ zs) := by
  obtain ⟨oc, od, kV, doc, pm, an, cdv, ct, osl, rfl, lk, hcd⟩ := F.ex
  refine ⟨fun s us ws _ h1 h2 => ?_, fun r1 r2 => r1.append r2⟩
  match us, ws, h1, h2 with
  | [a, b, c], [d, e], _, _ => exact .of_eq rfl
end
end Gz

namespace Gz
open PySem PySem.Spec PyProof.Rows L2

abbrev sSims : Stmt := topS 8
abbrev sNamed : Stmt := topS 9
theorem scSims : FnScope ["rule"] ["rule"] (defScope sSims) := ⟨rfl, rfl, rfl, by decide +kernel, rfl, by decide +kernel, by decide +kernel⟩
theorem scNamed : FnScope ["rule", "chambers", "referred", "part"] ["rule"] (defScope sNamed) := ⟨rfl, rfl, rfl, by decide +kernel, rfl, by decide +kernel, by decide +kernel⟩
theorem simple_sims {r : Rule} (sm : r.simple) : r.simples = [r] := by
  cases r with
  | yeas c u => rfl
  | quorum c u => rfl
  | majority c d => rfl
  | fraction c p q d => rfl
  | premier => exact sm.elim
  | all x y => exact sm.elim
  | any x y => exact sm.elim
def spSims (n : Nat) : Sp := fun vs H Q _ => ∃ (r : Rule) (v : V), vs = [v] ∧ IsRule H r v ∧ r.Ok ∧ r.depth < n ∧ r.depth ≤ 3 ∧
  ∀ (p : Addr) (H' : Hp) (ws : List V), Same H H' → H p = none → H' p = some (.lst ws) → AllP (fun e r' => IsRule H' r' e) ws r.simples → Q (.ref p) H'
section
variable {P : Program} {w : World} {K : PySem.W.Frag} {mg : Str → Option Value} {base : Heap} {f : Addr} {fd : FuncData}
theorem sims_step {n : Nat} (F : Fun K "simple_rules" "simple_rules" sSims f fd) (G : Df P w K mg base "simple_rules" n ["rule"] (spSims n) f fd) : FnOk P w K mg base CX0 (n + 1) f fd ["rule"] (spSims (n + 1)) := by
  refine F.ok scSims (fun vs H Q E h => ?_) (fun cdv A outer s H vs Q E hr h => ?_)
  · obtain ⟨r, v, rfl, _⟩ := h
    rfl
  obtain ⟨r, v, rfl, hR, ok, dep, d3, q⟩ := h
  refine ⟨_, pss_cons (ps_if (pt_cmpR op_in_seq (pe_ix ix_tup (pv 0) pe_int (fun _ _ => rfl)) (pe_tup (pa_cons pe_str (pa_cons pe_str pa_nil))) rfl)
      (pss_one (ps_ret (pe_op op_cat (pd G hr (pa_cons (pe_ix ix_tup (pv 0) pe_int (fun _ _ => rfl)) pa_nil)) (pd G hr (pa_cons (pe_ix ix_tup (pv 0) pe_int (fun _ _ => rfl)) pa_nil))))) pss_nil)
    (pss_cons (ps_if (pt_cmpR op_eq (pe_ix ix_tup (pv 0) pe_int (fun _ _ => rfl)) pe_str (nomark _)) (pss_one (ps_ret (pe_lst pa_nil))) pss_nil)
    (pss_one (ps_ret (pe_lst (pa_cons (pv 0) pa_nil))))), ?_⟩
  rcases rule_cases hR ok with sm | rfl | ⟨x, y, a, v1, v2, t⟩
  · obtain ⟨b, c, rest, rfl, hB, hc, h0⟩ := simple_head sm ok hR
    refine ⟨_, rfl, b, _, 0, _, rfl, rfl, SqT.of hB, at0, (by show 2 ≤ sizeLine; decide), fun p hp => ⟨p, _, rfl, .inr (SqT.of upd_same), rfl, rfl, _, rfl, ifN (simple_noall sm) ?_⟩⟩
    have s1 : Same H (upd H p (.tup [.str "all", .str "any"])) := same_new hp _
    refine ⟨_, rfl, b, _, 0, _, rfl, rfl, SqT.of (s1 _ _ hB), at0, rfl, _, rfl, ifN (simple_noprem sm) ?_⟩
    refine ⟨_, rfl, (by show 1 ≤ sizeLine; decide), fun p2 hp2 => q p2 _ _ (s1.trans (same_new hp2 _)) (s1.free hp2) upd_same ?_⟩
    rw [simple_sims sm]
    exact AllP.cons (hR.up (Tups.same (s1.trans (same_new hp2 _)))) AllP.nil
  · obtain ⟨b, rfl, hB⟩ := hR
    refine ⟨_, rfl, b, _, 0, _, rfl, rfl, SqT.of hB, rfl, (by show 2 ≤ sizeLine; decide), fun p hp => ⟨p, _, rfl, .inr (SqT.of upd_same), rfl, rfl, _, rfl, ifN (by decide +kernel) ?_⟩⟩
    have s1 : Same H (upd H p (.tup [.str "all", .str "any"])) := same_new hp _
    refine ⟨_, rfl, b, _, 0, _, rfl, rfl, SqT.of (s1 _ _ hB), rfl, rfl, _, rfl, ifP (by decide +kernel) ?_⟩
    exact ⟨Nat.zero_le _, fun p2 hp2 => q p2 _ _ (s1.trans (same_new hp2 _)) (s1.free hp2) upd_same AllP.nil⟩
  · obtain rfl := t.vr
    have hA := t.at_
    have dd1 := t.d1
    have dd2 := t.d2
    refine ⟨_, rfl, a, _, 0, _, rfl, rfl, SqT.of hA, rfl, (by show 2 ≤ sizeLine; decide), fun p hp => ⟨p, _, rfl, .inr (SqT.of upd_same), rfl, rfl, _, rfl, ifP t.isin ?_⟩⟩
    have s1 : Same H (upd H p (.tup [.str "all", .str "any"])) := same_new hp _
    refine ⟨_, rfl, a, _, 1, v1, rfl, rfl, SqT.of (s1 _ _ hA), rfl, x, v1, rfl, t.h1.up (Tups.same s1), t.ok1, by omega, by omega, fun p1 H1 w1 s2 n1 e1 a1 => ?_⟩
    have s12 := s1.trans s2
    refine ⟨_, rfl, a, _, 2, v2, rfl, rfl, SqT.of (s12 _ _ hA), rfl, y, v2, rfl, t.h2.up (Tups.same s12), t.ok2, by omega, by omega, fun p2 H2 w2 s3 n2 e2 a2 => ?_⟩
    have l1 := simples_len x
    have l2 := simples_len y
    have l3 := pow_depth (r := x) (n := 3) (by omega)
    have l4 := pow_depth (r := y) (n := 3) (by omega)
    have k1 := a1.1
    have k2 := a2.1
    refine ⟨p1, p2, w1, w2, rfl, rfl, s3 _ _ e1, e2, small (by omega), fun p3 hp3 => ?_⟩
    have s4 : Same H2 (upd H2 p3 (.lst (w1 ++ w2))) := same_new hp3 _
    refine q p3 _ _ (s12.trans (s3.trans s4)) ((s12.trans s3).free hp3) upd_same ?_
    rw [t.sims]
    exact (a1.mono fun e r' h => h.up (Tups.same (s3.trans s4))).append (a2.mono fun e r' h => h.up (Tups.same s4))
theorem sims_none {k : Nat} : FnOk P w K mg base CX0 k f fd ["rule"] (spSims 0) := by
  have no : ∀ vs H Q E, ¬ spSims 0 vs H Q E := fun vs H Q E h => by
    obtain ⟨r, v, _, _, _, dep, _⟩ := h
    omega
  exact ⟨fun vs H Q E h => absurd h (no vs H Q E), fun A outer s H args us vs Q E _ _ _ _ h => absurd h (no vs H Q E)⟩
theorem df_sims (a : At K mg "simple_rules" sSims ["rule"] f fd) : ∀ n : Nat, Df P w K mg base "simple_rules" n ["rule"] (spSims n) f fd
  | 0 => a.df sims_none
  | n + 1 => a.df (sims_step a.fn (df_sims a n))

/-! ### named -/
def spNamed : Sp := fun vs H Q _ => ∃ (r : Rule) (v : V), vs = [v] ∧ IsRule H r v ∧ r.Ok ∧ r.depth ≤ 3 ∧
  ∀ (p a b : Addr) (H' : Hp) (cs ns : List Int), Same H H' → H' p = some (.tup [.ref a, .ref b]) → H' a = some (.tup (cs.map V.int)) → H' b = some (.tup (ns.map V.int)) → Asc r.chs cs → Asc r.nos ns → Q (.ref p) H'
theorem simple_in {H : Hp} {r : Rule} {v : V} (sm : r.simple) (h : IsRule H r v) : (inV (V.str r.kind) [.str "yeas", .str "quorum"] = true ∧ ∃ (b : Addr) (c : Int) (x : V) (t : Thr), v = .ref b ∧ H b = some (.tup [.str r.kind, .int c, x]) ∧ IsThr H x t ∧ r.no = t.no) ∨
    (¬ inV (V.str r.kind) [.str "yeas", .str "quorum"] = true ∧ r.no = none) := by
  cases r with
  | yeas c u =>
    obtain ⟨a, x, e, h1, h2⟩ := h
    exact .inl ⟨(by decide +kernel : inV (V.str "yeas") [.str "yeas", .str "quorum"] = true), a, c, x, u, e, h1, h2, rfl⟩
  | quorum c u =>
    obtain ⟨a, x, e, h1, h2⟩ := h
    exact .inl ⟨(by decide +kernel : inV (V.str "quorum") [.str "yeas", .str "quorum"] = true), a, c, x, u, e, h1, h2, rfl⟩
  | majority c d => exact .inr ⟨(by decide +kernel : ¬ inV (V.str "majority") [.str "yeas", .str "quorum"] = true), rfl⟩
  | fraction c p q d => exact .inr ⟨(by decide +kernel : ¬ inV (V.str "fraction") [.str "yeas", .str "quorum"] = true), rfl⟩
  | premier => exact sm.elim
  | all x y => exact sm.elim
  | any x y => exact sm.elim
theorem asc_of {l ns : List Int} (h1 : ns.Pairwise (· < ·)) (h2 : ∀ k : Int, k ∈ ns ↔ (fun j => decide (j ∈ l)) k = true) : Asc l ns := ⟨h1, fun k => (h2 k).trans decide_eq_true_iff⟩
theorem take_fm {α β : Type} {g : α → Option β} {l : List α} {i : Nat} {x : α} (h : l[i]? = some x) : (l.take (i + 1)).filterMap g = (l.take i).filterMap g ++ (g x).toList := by
  rw [List.take_add_one, h, List.filterMap_append]
  show _ ++ List.filterMap g [x] = _
  cases e : g x <;> simp [List.filterMap, e]
/-- every part of a rule that is in order is -/
theorem simples_ok : ∀ r : Rule, r.Ok → ∀ x ∈ r.simples, x.Ok
  | .all a b => fun ok x h => by
    rcases List.mem_append.mp h with h | h
    · exact simples_ok a ok.1 x h
    · exact simples_ok b ok.2 x h
  | .any a b => fun ok x h => by
    rcases List.mem_append.mp h with h | h
    · exact simples_ok a ok.1 x h
    · exact simples_ok b ok.2 x h
  | .yeas _ _ => fun ok x h => by rw [List.mem_singleton.mp h]; exact ok
  | .quorum _ _ => fun ok x h => by rw [List.mem_singleton.mp h]; exact ok
  | .majority _ _ => fun ok x h => by rw [List.mem_singleton.mp h]; exact ok
  | .fraction _ _ _ _ => fun ok x h => by rw [List.mem_singleton.mp h]; exact ok
  | .premier => fun ok x h => by cases h
theorem ok_named {fs : Addr} {fds : FuncData} (F : Fun K "named" "named" sNamed f fd) (M : Txt mg) (GS : Df P w K mg base "simple_rules" 4 ["rule"] (spSims 4) fs fds) : FnOk P w K mg base CX0 5 f fd ["rule"] spNamed := by
  refine F.ok scNamed (fun vs H Q E h => ?_) (fun cdv A outer s H vs Q E hr h => ?_)
  · obtain ⟨r, v, rfl, _⟩ := h
    rfl
  obtain ⟨r, v, rfl, hR, ok, d3, q⟩ := h
  refine ⟨_, pss_cons (ps_set (i := 1) scNamed.nd rfl (.inl rfl) (pe_lst pa_nil)) (pss_cons (ps_set (i := 2) scNamed.nd rfl (.inl rfl) (pe_lst pa_nil))
    (pss_cons (ps_for PassesOwn.never rfl (pi_list (pd GS hr (pa_cons (pv 0) pa_nil))) (pg_name (i := 3) scNamed.nd rfl (.inl rfl))
      (pss_cons (ps_expr (pe_bm PySem.F.plainAttrs_list PySem.F.slot_list_append PySem.F.type_list_append mt_append (pv 1) (pa_cons (pe_ix ix_tup (pv 3) pe_int (fun _ _ => rfl)) pa_nil)))
      (pss_one (ps_if (PW.pt (pw_and (pt_cmpR op_in_seq (pe_ix ix_tup (pv 3) pe_int (fun _ _ => rfl)) (pe_tup (pa_cons pe_str (pa_cons pe_str pa_nil))) rfl) (pw_and1 (pt_not (pt_val (p_isi M.isi M.int b_int (pe_ix ix_tup (pv 3) pe_int (fun _ _ => rfl))))))))
        (pss_one (ps_expr (pe_bm PySem.F.plainAttrs_list PySem.F.slot_list_append PySem.F.type_list_append mt_append (pv 2) (pa_cons (pe_ix ix_tup (pe_ix ix_tup (pv 3) pe_int (fun _ _ => rfl)) pe_int (fun _ _ => rfl)) pa_nil)))) pss_nil))))
    (pss_one (ps_ret (pe_tup (pa_cons (pe_callTy call_tuple_of rfl M.tuple b_tuple (pa_cons (pe_callB (cr_sortedSet rfl) rfl M.sorted b_sorted (pa_cons (pe_callTy (cr_setL rfl) rfl M.set b_set (pa_cons (pv 1) pa_nil)) pa_nil)) pa_nil))
      (pa_cons (pe_callTy call_tuple_of rfl M.tuple b_tuple (pa_cons (pe_callB (cr_sortedSet rfl) rfl M.sorted b_sorted (pa_cons (pe_callTy (cr_setL rfl) rfl M.set b_set (pa_cons (pv 2) pa_nil)) pa_nil)) pa_nil)) pa_nil))))))), ?_⟩
  refine ⟨Nat.zero_le _, fun lc nC => ⟨Nat.zero_le _, fun lr nR => ?_⟩⟩
  have ncr : lc ≠ lr := ne_of_none upd_same nR
  have s0 : Same H (upd (upd H lc (.lst [])) lr (.lst [])) := (same_new nC _).trans (same_new nR _)
  have nR0 : H lr = none := by
    rw [upd_ne ncr.symm] at nR
    exact nR
  refine ⟨_, rfl, r, v, rfl, hR.up (Tups.same s0), ok, by omega, d3, fun p H2 ws s2 n2 e2 al => ⟨p, rfl, ⟨_, SqL.of e2⟩, ?_⟩⟩
  have e0C : (upd (upd H lc (.lst [])) lr (.lst [])) lc = some (.lst []) := by
    rw [upd_ne ncr]
    exact upd_same
  have npC : lc ≠ p := ne_of_none e0C n2
  have npR : lr ≠ p := ne_of_none upd_same n2
  have hlen : r.simples.length ≤ 8 := Nat.le_trans (simples_len r) (pow_depth d3)
  have len1 : ∀ (g : Rule → Option Int) (i : Nat), ((r.simples.take i).filterMap g).length ≤ 8 := fun g i => by
    have l1 := List.length_filterMap_le g (r.simples.take i)
    have l2 : (r.simples.take i).length ≤ r.simples.length := List.length_take_le' i _
    omega
  refine for_list (K := K) (a := p) (xs := ws) (fun i σ H' => ∃ y, σ = [some v, some (.ref lc), some (.ref lr), y] ∧ Same H H' ∧ AllP (fun e r' => IsRule H' r' e) ws r.simples ∧ H' p = some (.lst ws) ∧
      H' lc = some (.lst (((r.simples.take i).filterMap Rule.ch).map V.int)) ∧ H' lr = some (.lst (((r.simples.take i).filterMap Rule.no).map V.int)))
    ⟨none, rfl, s0.trans s2, al, e2, s2 _ _ e0C, s2 _ _ upd_same⟩ (fun i σ H' _ ⟨_, _, _, _, e, _⟩ => SqL.of e) ?_ ?_
  · rintro i e σ H1 he ⟨y, rfl, sH, al1, eP, eC, eR⟩
    obtain ⟨r', hr', hR'⟩ := al1.get he
    have mem' : r' ∈ r.simples := List.mem_of_getElem? hr'
    have sm := simples_simple r r' mem'
    obtain ⟨b, c, rest, rfl, hB, hc, h0⟩ := simple_head sm (simples_ok r ok r' mem') hR'
    refine ⟨_, rfl, .inl ⟨rfl, _, SqL.of eC⟩, _, rfl, b, _, 1, _, rfl, rfl, SqT.of hB, at1, lc, _, _, rfl, rfl, eC, by rw [List.length_map]; exact small1000 (by have := len1 Rule.ch i; omega), ?_⟩
    have T1 := Tups.lst eC (.lst (((r.simples.take i).filterMap Rule.ch).map V.int ++ [.int c]))
    refine ⟨_, rfl, b, _, 0, _, rfl, rfl, SqT.of (T1 _ _ hB), at0, (by show 2 ≤ sizeLine; decide), fun p3 hp3 => ⟨p3, _, rfl, .inr (SqT.of upd_same), rfl, rfl, _, rfl, ?_⟩⟩
    have T2 := T1.trans (Tups.fresh hp3 (.tup [.str "yeas", .str "quorum"]))
    have sH2 := (same_back sH nC (.lst (((r.simples.take i).filterMap Rule.ch).map V.int ++ [.int c]))).trans (same_new hp3 (.tup [.str "yeas", .str "quorum"]))
    have al2 : AllP (fun e r' => IsRule (upd (upd H1 lc (.lst (((r.simples.take i).filterMap Rule.ch).map V.int ++ [.int c]))) p3 (.tup [.str "yeas", .str "quorum"])) r' e) ws r.simples := al1.mono fun _ _ h => h.up T2
    have kept : ∀ (l : Addr) (o : HO), l ≠ lc → H1 l = some o → (upd (upd H1 lc (.lst (((r.simples.take i).filterMap Rule.ch).map V.int ++ [.int c]))) p3 (.tup [.str "yeas", .str "quorum"])) l = some o := fun l o n h => by
      have h2 : (upd H1 lc (.lst (((r.simples.take i).filterMap Rule.ch).map V.int ++ [.int c]))) l = some o := by
        rw [upd_ne n]
        exact h
      rw [upd_ne (ne_of_none h2 hp3)]
      exact h2
    have eC2 : (upd (upd H1 lc (.lst (((r.simples.take i).filterMap Rule.ch).map V.int ++ [.int c]))) p3 (.tup [.str "yeas", .str "quorum"])) lc = some (.lst (((r.simples.take (i + 1)).filterMap Rule.ch).map V.int)) := by
      rw [upd_ne (ne_of_none upd_same hp3), upd_same, take_fm hr', hc, List.map_append]
      rfl
    have eR2 := kept lr _ ncr.symm eR
    have eP2 := kept p _ npC.symm eP
    have hB2 := T2 _ _ hB
    have hR2 := hR'.up T2
    generalize upd (upd H1 lc (.lst (((r.simples.take i).filterMap Rule.ch).map V.int ++ [.int c]))) p3 (.tup [.str "yeas", .str "quorum"]) = Hb at sH2 al2 eC2 eR2 eP2 hB2 hR2 ⊢
    rcases simple_in sm hR2 with ⟨hin, b', c', x, t, eb, hB3, hX, hno⟩ | ⟨hin, hno⟩
    · cases eb
      refine ifP hin ?_
      cases t with
      | num n =>
        cases (show x = .int n from hX)
        refine ⟨_, rfl, b, _, 2, _, rfl, rfl, SqT.of hB3, rfl, _, _, true, rfl, .base (.int n), by decide +kernel, _, rfl, ifN (by decide) ⟨_, rfl, sH2, al2, eP2, eC2, ?_⟩⟩
        rw [eR2, take_fm hr', hno]
        show some _ = some (HO.lst (((_ : List Int) ++ []).map V.int))
        rw [List.append_nil]
      | par k =>
        obtain ⟨d, rfl, hD⟩ := hX
        refine ⟨_, rfl, b, _, 2, _, rfl, rfl, SqT.of hB3, rfl, _, _, false, rfl, .base (.tup hD), by decide +kernel, _, rfl, ifP (by decide) ?_⟩
        refine ⟨_, rfl, .inl ⟨rfl, _, SqL.of eR2⟩, _, rfl, b, _, 2, _, rfl, rfl, SqT.of hB3, rfl, d, _, 1, _, rfl, rfl, SqT.of hD, rfl, lr, _, _, rfl, rfl, eR2, by rw [List.length_map]; exact small1000 (by have := len1 Rule.no i; omega), ?_⟩
        have T3 := Tups.lst eR2 (.lst (((r.simples.take i).filterMap Rule.no).map V.int ++ [.int k]))
        refine ⟨_, rfl, same_back sH2 nR0 _, al2.mono fun _ _ h => h.up T3, by rw [upd_ne npR.symm]; exact eP2, by rw [upd_ne ncr]; exact eC2, ?_⟩
        rw [upd_same, take_fm hr', hno, List.map_append]
        rfl
    · refine ifN hin (ifN (by decide) ⟨_, rfl, sH2, al2, eP2, eC2, ?_⟩)
      rw [eR2, take_fm hr', hno]
      show some _ = some (HO.lst (((_ : List Int) ++ []).map V.int))
      rw [List.append_nil]
  · rintro σ H1 ⟨y, rfl, sH, _, _, eC, eR⟩
    have lws : ws.length = r.simples.length := al.1
    rw [lws, List.take_length, chs_simples] at eC
    rw [lws, List.take_length, nos_simples] at eR
    have lc8 : r.chs.length ≤ 8 := by
      have := len1 Rule.ch r.simples.length
      rw [List.take_length, chs_simples] at this
      exact this
    have ln8 : r.nos.length ≤ 8 := by
      have := len1 Rule.no r.simples.length
      rw [List.take_length, nos_simples] at this
      exact this
    refine ⟨_, rfl, lc, _, rfl, SqL.of eC, by omega, fun s1 c1 hs1 hc1 => ⟨s1, _, c1, rfl, upd_same, by omega, fun cs p1 o1 m1 _ f1 => ⟨p1, _, rfl, .inl ⟨SqL.of upd_same, fun a ha => ?_⟩⟩⟩⟩
    have sA := (same_new hs1 _).trans ((same_new f1 _).trans (same_new ha (.tup (cs.map V.int))))
    refine ⟨_, rfl, lr, _, rfl, SqL.of (sA _ _ eR), by omega, fun s2' c2 hs2 hc2 => ⟨s2', _, c2, rfl, upd_same, by omega, fun ns p2 o2 m2 _ f2 => ⟨p2, _, rfl, .inl ⟨SqL.of upd_same, fun b hb => ?_⟩⟩⟩⟩
    have sB := (same_new hs2 _).trans ((same_new f2 _).trans (same_new hb (.tup (ns.map V.int))))
    refine ⟨(by show 2 ≤ sizeLine; decide), fun pt hpt => ?_⟩
    have sC := same_new hpt (.tup [.ref a, .ref b])
    exact q pt a b _ cs ns (sH.trans (sA.trans (sB.trans sC))) upd_same (sC _ _ (sB _ _ upd_same)) (sC _ _ upd_same) (asc_of o1 m1) (asc_of o2 m2)
end
end Gz

namespace Gz
open PySem PySem.Spec PyProof.Rows L2

/-! ### the law's tape -/
abbrev sTape : Stmt := topS 11
abbrev sDraw : Stmt := topS 12
theorem scTape : FnScope ["_law_script", "_law_total", "_law_cell"] ["_law_script"] (defScope sTape) := ⟨rfl, rfl, rfl, by decide +kernel, rfl, by decide +kernel, by decide +kernel⟩
theorem scDraw : FnScope ["_law_tape_here", "_law_many", "_law_place", "_law_number"] ["_law_tape_here", "_law_many"] (defScope sDraw) := ⟨rfl, rfl, rfl, by decide +kernel, rfl, by decide +kernel, by decide +kernel⟩
/-- a tape stands at t, its numbers at l -/
def Tp (H : Hp) (t l : Addr) : Prop := ∃ (ns : List Int) (p q r : Int), H t = some (.lst [.ref l, .int p, .int q, .int r]) ∧ H l = some (.lst (ns.map V.int)) ∧ l ≠ t ∧ 0 ≤ p
theorem Tp.lst {H : Hp} {t l : Addr} (h : Tp H t l) : ∃ xs, H t = some (.lst xs) := by
  obtain ⟨ns, p, q, r, h, _⟩ := h
  exact ⟨_, h⟩
theorem Tp.same {H H' : Hp} {t l : Addr} (h : Tp H t l) (s : Same H H') : Tp H' t l := by
  obtain ⟨ns, p, q, r, h1, h2, h3⟩ := h
  exact ⟨ns, p, q, r, s _ _ h1, s _ _ h2, h3⟩
theorem Tp.fresh {H : Hp} {t l u : Addr} (h : Tp H t l) (n : H u = none) (o : HO) : Tp (upd H u o) t l := h.same (same_new n o)
/-- a new place is no part of the tape -/
theorem Tp.ne {H : Hp} {t l u : Addr} (h : Tp H t l) (n : H u = none) : u ≠ t ∧ u ≠ l := by
  obtain ⟨ns, p, q, r, h1, h2, h3⟩ := h
  exact ⟨(ne_of_none h1 n).symm, (ne_of_none h2 n).symm⟩
/-- another list is written -/
theorem Tp.put {H : Hp} {t l u : Addr} (h : Tp H t l) (n : u ≠ t ∧ u ≠ l) (o : HO) : Tp (upd H u o) t l := by
  obtain ⟨ns, p, q, r, h1, h2, h3⟩ := h
  exact ⟨ns, p, q, r, by rw [upd_ne n.1.symm]; exact h1, by rw [upd_ne n.2.symm]; exact h2, h3⟩
theorem Tp.tups {H H' : Hp} {t l : Addr} (h : Tp H t l) (k : Keep t H H') : Tups H H' := by
  obtain ⟨xs, e⟩ := h.lst
  exact Tups.keep e k
def spTape (K : PySem.W.Frag) : Sp := fun vs H Q _ => ∃ (a : Addr) (ns : List Int), vs = [.ref a] ∧ SqL K H a (ns.map V.int) ∧ ∀ (t l : Addr) (H' : Hp), Same H H' → Tp H' t l → Q (.ref t) H'
def spDraw : Sp := fun vs H Q _ => ∃ (t l : Addr) (n : Int), vs = [.ref t, .int n] ∧ Tp H t l ∧ n ≤ 100000 ∧ ∀ (k : Int) (H' : Hp), Keep t H H' → Tp H' t l → 0 ≤ k → (1 ≤ n → k < n) → Q (.int k) H'
section
variable {P : Program} {w : World} {K : PySem.W.Frag} {mg : Str → Option Value} {base : Heap} {f : Addr} {fd : FuncData}
theorem ok_tape (F : Fun K "_law_tape" "_law_tape" sTape f fd) (M : Txt mg) : FnOk P w K mg base CX0 1 f fd ["_law_script"] (spTape K) := by
  refine F.ok scTape (fun vs H Q E h => ?_) (fun cdv A outer s H vs Q E hr h => ?_)
  · obtain ⟨a, ns, rfl, _⟩ := h
    rfl
  obtain ⟨a, ns, rfl, hS, q⟩ := h
  refine ⟨_, pss_cons (ps_set (i := 1) scTape.nd rfl (.inl rfl) pe_int)
    (pss_cons (ps_for PassesOwn.never rfl (pi_list (pv 0)) (pg_name (i := 2) scTape.nd rfl (.inl rfl))
      (pss_one (ps_set (i := 1) scTape.nd rfl (.inl rfl) (pe_op op_mod (pe_callTy call_int1 rfl M.int b_int (pa_cons (pe_op op_add (pe_op op_mul (pv 1) pe_int) (pe_callB call_abs rfl M.abs b_abs (pa_cons (pe_callTy call_int1 rfl M.int b_int (pa_cons (pv 2) pa_nil)) pa_nil))) pa_nil)) pe_int))))
    (pss_one (ps_ret (pe_lst (pa_cons (pe_callTy call_list_of rfl M.list b_list (pa_cons (pv 0) pa_nil)) (pa_cons pe_int (pa_cons pe_int (pa_cons (pv 1) pa_nil)))))))), ?_⟩
  refine ⟨_, rfl, a, rfl, ⟨_, hS⟩, ?_⟩
  refine for_list (K := K) (a := a) (xs := ns.map V.int) (fun i σ H' => H' = H ∧ ∃ (c : Int) (y : Option V), σ = [some (.ref a), some (.int c), y]) ⟨rfl, 7, none, rfl⟩ (fun i σ H' _ ⟨e, _⟩ => by rw [e]; exact hS) ?_ ?_
  · rintro i x σ H' hx ⟨rfl, c, y, rfl⟩
    rw [List.getElem?_map] at hx
    obtain ⟨m, hm, rfl⟩ := Option.map_eq_some_iff.mp hx
    exact ⟨_, rfl, _, _, rfl, rfl, .inr ⟨by decide, by decide⟩, _, rfl, .inl ⟨_, rfl, _, rfl, _, _, rfl, rfl, .inl ⟨_, rfl, _, _, rfl, rfl, (by decide : (0 : Int) < 2147483647), rfl, _, _, rfl⟩⟩⟩
  · rintro σ H' ⟨rfl, c, y, rfl⟩
    refine ⟨_, rfl, a, _, rfl, .inl hS, fun l hl => ⟨_, rfl, (by show 4 ≤ sizeLine; decide), fun t ht => ?_⟩⟩
    have s1 := same_new hl (.lst (ns.map V.int))
    refine q t l _ (s1.trans (same_new ht _)) ⟨ns, 0, 0, c, upd_same, ?_, ne_of_none upd_same ht, by decide⟩
    rw [upd_ne (ne_of_none upd_same ht)]
    exact upd_same
theorem max_two {n : Int} (h : n ≤ 100000) : (if (2 : Int) > n then 2 else n) ≠ 0 ∧ (if (2 : Int) > n then 2 else n).natAbs < 1073741824 := by
  by_cases c : (2 : Int) > n
  · rw [if_pos c]
    decide
  · rw [if_neg c]
    omega
theorem max_one {n : Int} : (0 : Int) < (if (1 : Int) > n then 1 else n) ∧ (1 ≤ n → (if (1 : Int) > n then 1 else n) = n) := by
  by_cases c : (1 : Int) > n
  · rw [if_pos c]
    omega
  · rw [if_neg c]
    omega
theorem ok_draw (F : Fun K "_law_draw" "_law_draw" sDraw f fd) (M : Txt mg) : FnOk P w K mg base CX0 1 f fd ["_law_tape_here", "_law_many"] spDraw := by
  refine F.ok scDraw (fun vs H Q E h => ?_) (fun cdv A outer s H vs Q E hr h => ?_)
  · obtain ⟨t, l, n, rfl, _⟩ := h
    rfl
  obtain ⟨t, l, n, rfl, ⟨ns, p, g, r, hT, hL, nl, hp⟩, hn, q⟩ := h
  refine ⟨_, C8.pss_cut (ps_if (pt_cmpR op_eq (pe_ix ix_list (pv 0) pe_int (fun _ _ => rfl)) pe_int (nomark _))
      (pss_cons (ps_set (i := 2) scDraw.nd rfl (.inl rfl) (pe_ix ix_list (pv 0) pe_int (fun _ _ => rfl)))
      (pss_cons (ps_set (i := 3) scDraw.nd rfl (.inl rfl) pe_int)
      (C8.pss_cut (ps_if (pt_cmpR op_lt (pv 2) (pe_callB call_len_seq rfl M.len b_len (pa_cons (pe_ix ix_list (pv 0) pe_int (fun _ _ => rfl)) pa_nil)) (nomark _))
          (pss_one (ps_set (i := 3) scDraw.nd rfl (.inl rfl) (pe_callB call_abs rfl M.abs b_abs (pa_cons (pe_callTy call_int1 rfl M.int b_int (pa_cons (pe_ix ix_list (pe_ix ix_list (pv 0) pe_int (fun _ _ => rfl)) (pv 2) (fun _ _ => rfl)) pa_nil)) pa_nil))))
          (pss_cons (ps_asg (pe_op op_mod (pe_callTy call_int1 rfl M.int b_int (pa_cons (pe_op op_add (pe_op op_add (pe_op op_mul (pe_ix ix_list (pv 0) pe_int (fun _ _ => rfl)) pe_int) (pv 2)) pe_int) pa_nil)) pe_int) (pg_sub (pv 0) pe_int set_list))
          (pss_one (ps_set (i := 3) scDraw.nd rfl (.inl rfl) (pe_ix ix_list (pv 0) pe_int (fun _ _ => rfl))))))
      (pss_cons (ps_asg (pe_op op_add (pv 2) pe_int) (pg_sub (pv 0) pe_int set_list))
      (pss_cons (ps_if (pt_cmpR op_lt (pv 3) (pe_op op_pow pe_int pe_int) (nomark _))
          (pss_cons (ps_set (i := 3) scDraw.nd rfl (.inl rfl) (pe_op op_mod (pe_callTy call_int1 rfl M.int b_int (pa_cons (pe_op op_add (pe_op op_add (pe_op op_mul (pv 3) pe_int) (pe_op op_mul (pv 2) pe_int)) pe_int) pa_nil)) pe_int))
          (pss_cons (ps_set (i := 3) scDraw.nd rfl (.inl rfl) (pe_op op_mod (pe_callTy call_int1 rfl M.int b_int (pa_cons (pe_op op_mul (pv 3) pe_int) pa_nil)) pe_int))
          (pss_one (ps_ret (pe_op op_mod (pe_callTy call_int1 rfl M.int b_int (pa_cons (pv 3) pa_nil)) (pe_callB (call_max2 rfl) rfl M.max b_max (pa_cons (pv 1) (pa_cons pe_int pa_nil)))))))) pss_nil)
      (pss_one (ps_asg (pv 3) (pg_sub (pv 0) pe_int set_list)))))))) pss_nil)
    (pss_cons (ps_set (i := 3) scDraw.nd rfl (.inl rfl) (pe_ix ix_list (pv 0) pe_int (fun _ _ => rfl)))
    (pss_cons (ps_asg (pe_op op_fdivN (pv 3) (pe_callB (call_max2 rfl) rfl M.max b_max (pa_cons (pv 1) (pa_cons pe_int pa_nil)))) (pg_sub (pv 0) pe_int set_list))
    (pss_one (ps_ret (pe_op op_mod (pe_callTy call_int1 rfl M.int b_int (pa_cons (pv 3) pa_nil)) (pe_callB (call_max2 rfl) rfl M.max b_max (pa_cons (pv 1) (pa_cons pe_int pa_nil)))))))), ?_⟩
  have fin : ∀ (x y : Int), 0 ≤ x % (if (1 : Int) > n then 1 else n) ∧ (1 ≤ n → x % (if (1 : Int) > n then 1 else n) < n) := fun x y => by
    obtain ⟨h1, h2⟩ := max_one (n := n)
    refine ⟨Int.emod_nonneg _ (by omega), fun h => ?_⟩
    have := Int.emod_lt_of_pos x h1
    rw [h2 h] at this ⊢
    exact this
  -- what the tape is like between two stores
  have tp : ∀ (H' : Hp) (p' g' r' : Int), Keep t H H' → H' t = some (.lst [.ref l, .int p', .int g', .int r']) → 0 ≤ p' → Tp H' t l := fun H' p' g' r' k e h => ⟨ns, p', g', r', e, k _ _ nl hL, nl, h⟩
  refine ⟨fun σ H' => ∃ (p' g' r' : Int) (y2 y3 : Option V), σ = [some (.ref t), some (.int n), y2, y3] ∧ Keep t H H' ∧ H' t = some (.lst [.ref l, .int p', .int g', .int r']) ∧ 0 ≤ p', ?_, ?_⟩
  · refine ⟨_, rfl, t, _, 2, _, rfl, rfl, SqL.of hT, rfl, rfl, _, rfl, ?_⟩
    refine ite2 (fun c0 => ?_) (fun _ => ⟨p, g, r, none, none, rfl, Keep.refl t H, hT, hp⟩)
    refine ⟨_, rfl, t, _, 1, _, rfl, rfl, SqL.of hT, rfl, ?_⟩
    refine ⟨fun σ H' => ∃ (r' x : Int), σ = [some (.ref t), some (.int n), some (.int p), some (.int x)] ∧ Keep t H H' ∧ H' t = some (.lst [.ref l, .int p, .int g, .int r']), ?_, ?_⟩
    · refine ⟨_, rfl, _, rfl, t, _, 0, _, rfl, rfl, SqL.of hT, rfl, l, _, rfl, .inl (SqL.of hL), _, _, rfl, rfl, _, rfl, ?_⟩
      refine ite2 (fun c1 => ?_) (fun c1 => ?_)
      · have c1' : p < (((ns.map V.int).length : Nat) : Int) := of_decide_eq_true c1
        rw [List.length_map] at c1'
        have hi : p.toNat < ns.length := by omega
        have hat : atI (ns.map V.int) p = some (.int ns[p.toNat]) := at_some hp (by rw [List.getElem?_map, List.getElem?_eq_getElem hi]; rfl)
        exact ⟨_, rfl, t, _, 0, _, rfl, rfl, SqL.of hT, rfl, _, rfl, l, _, p, _, rfl, rfl, SqL.of hL, hat, .inl ⟨_, rfl, _, rfl, r, _, rfl, Keep.refl t H, hT⟩⟩
      · refine ⟨_, rfl, t, _, 3, _, rfl, rfl, SqL.of hT, rfl, _, _, rfl, rfl, .inr ⟨by decide, by decide⟩, _, rfl, _, _, rfl, rfl, _, _, rfl, rfl, .inl ⟨_, rfl, _, _, rfl, rfl, (by decide : (0 : Int) < 2147483647), ?_⟩⟩
        refine ⟨_, rfl, t, _, 3, 3, rfl, rfl, hT, rfl, ?_⟩
        exact ⟨_, rfl, t, _, 3, _, rfl, rfl, SqL.of upd_same, rfl, _, _, rfl, Keep.at H _, upd_same⟩
    rintro σ H1 ⟨r', x, rfl, k1, e1⟩
    refine ⟨_, rfl, _, _, rfl, rfl, _, rfl, t, _, 1, 1, rfl, rfl, e1, rfl, ?_⟩
    have k2 := k1.trans (Keep.at H1 (.lst [.ref l, .int (p + 1), .int g, .int r']))
    have e2 : (upd H1 t (.lst [.ref l, .int (p + 1), .int g, .int r'])) t = some (.lst [.ref l, .int (p + 1), .int g, .int r']) := upd_same
    refine ⟨_, rfl, _, _, rfl, rfl, ⟨by decide, by decide, by decide⟩, _, _, rfl, rfl, _, rfl, ?_⟩
    refine ite2 (fun c2 => ?_) (fun c2 => ?_)
    · refine ⟨_, rfl, _, _, rfl, rfl, .inr ⟨by decide, by decide⟩, _, rfl, _, _, rfl, rfl, .inr ⟨by decide, by decide⟩, _, _, rfl, rfl, _, _, rfl, rfl, .inl ⟨_, rfl, _, _, rfl, rfl, (by decide : (0 : Int) < 2147483647), ?_⟩⟩
      refine ⟨_, rfl, _, _, rfl, rfl, .inr ⟨by decide, by decide⟩, .inl ⟨_, rfl, _, _, rfl, rfl, (by decide : (0 : Int) < 2147483629), ?_⟩⟩
      refine ⟨_, rfl, .inl ⟨_, rfl, _, rfl, _, _, rfl, _, _, rfl, rfl, max_one.1, ?_⟩⟩
      exact q _ _ k2 (tp _ _ _ _ k2 e2 (by omega)) (fin _ 0).1 (fin _ 0).2
    · refine ⟨_, rfl, _, rfl, t, _, 2, 2, rfl, rfl, e2, rfl, ?_⟩
      exact ⟨p + 1, x, r', _, _, rfl, k2.trans (Keep.at _ _), upd_same, by omega⟩
  rintro σ H1 ⟨p', g', r', y2, y3, rfl, k1, e1, hp'⟩
  refine ⟨_, rfl, t, _, 2, _, rfl, rfl, SqL.of e1, rfl, ?_⟩
  refine ⟨_, rfl, _, rfl, _, _, rfl, _, _, rfl, rfl, max_two hn, _, rfl, t, _, 2, 2, rfl, rfl, e1, rfl, ?_⟩
  refine ⟨_, rfl, .inl ⟨_, rfl, _, rfl, _, _, rfl, _, _, rfl, rfl, max_one.1, ?_⟩⟩
  have k2 := k1.trans (Keep.at H1 (.lst [.ref l, .int p', .int (g'.fdiv (if (2 : Int) > n then 2 else n)), .int r']))
  exact q _ _ k2 (tp _ _ _ _ k2 upd_same hp') (fin _ 0).1 (fin _ 0).2
end
end Gz

namespace Gz
open PySem PySem.Spec PyProof.Rows L2

/-! ### what the law draws: members, seats, votes -/
abbrev sHolders : Stmt := topS 14
abbrev sSeats : Stmt := topS 15
abbrev sRoll : Stmt := topS 16
theorem scHolders : FnScope ["_law_tape_here", "_law_top", "_law_holders_here", "_law_j"] ["_law_tape_here", "_law_top"] (defScope sHolders) := ⟨rfl, rfl, rfl, by decide +kernel, rfl, by decide +kernel, by decide +kernel⟩
theorem scSeats : FnScope ["_law_tape_here", "_law_most", "_law_top", "_law_chambers", "_law_k"] ["_law_tape_here", "_law_most"] (defScope sSeats) := ⟨rfl, rfl, rfl, by decide +kernel, rfl, by decide +kernel, by decide +kernel⟩
theorem scRoll : FnScope ["_law_tape_here", "_law_many", "_law_k"] ["_law_tape_here", "_law_many"] (defScope sRoll) := ⟨rfl, rfl, rfl, by decide +kernel, rfl, by decide +kernel, by decide +kernel⟩
theorem at_mem {α : Type} {xs : List α} {k : Int} (h0 : 0 ≤ k) (h : k < (xs.length : Int)) : ∃ x, x ∈ xs ∧ atI xs k = some x := by
  have hi : k.toNat < xs.length := by omega
  exact ⟨xs[k.toNat], List.getElem_mem hi, at_some h0 (List.getElem?_eq_getElem hi)⟩
def spHolders : Sp := fun vs H Q _ => ∃ (t l : Addr) (n : Int), vs = [.ref t, .int n] ∧ Tp H t l ∧ 1 ≤ n ∧ n ≤ 12 ∧ ∀ (p : Addr) (H' : Hp) (hs : Hold), Keep t H H' → Tp H' t l → H' p = some (.tup (hs.map hV)) → HoldOk hs → Q (.ref p) H'
def spSeats : Sp := fun vs H Q _ => ∃ (t l : Addr) (n : Int), vs = [.ref t, .int n] ∧ Tp H t l ∧ 1 ≤ n ∧ n ≤ 4 ∧ ∀ (v : V) (H' : Hp) (S : List Hold), Keep t H H' → Tp H' t l → IsSeats H' v S → SeatsOk S → Q v H'
abbrev psDraw : List Str := ["_law_tape_here", "_law_many"]
section
variable {P : Program} {w : World} {K : PySem.W.Frag} {mg : Str → Option Value} {base : Heap} {f fw : Addr} {fd fdw : FuncData}
theorem ok_holders (F : Fun K "_law_holders" "_law_holders" sHolders f fd) (M : Txt mg) (GD : Df P w K mg base "_law_draw" 1 psDraw spDraw fw fdw) : FnOk P w K mg base CX0 2 f fd ["_law_tape_here", "_law_top"] spHolders := by
  refine F.ok scHolders (fun vs H Q E h => ?_) (fun cdv A outer s H vs Q E hr h => ?_)
  · obtain ⟨t, l, n, rfl, _⟩ := h
    rfl
  obtain ⟨t, l, n, rfl, hT, n1, n2, q⟩ := h
  refine ⟨_, pss_cons (ps_set (i := 2) scHolders.nd rfl (.inl rfl) (pe_lst pa_nil))
    (pss_cons (ps_for PassesOwn.never rfl (pi_range1 rfl M.range (pa_cons (pe_op op_add pe_int (pd GD hr (pa_cons (pv 0) (pa_cons pe_int pa_nil)))) pa_nil)) (pg_name (i := 3) scHolders.nd rfl (.inl rfl))
      (pss_one (ps_if (pt_cmpR op_eq (pd GD hr (pa_cons (pv 0) (pa_cons pe_int pa_nil))) pe_int (nomark _))
        (pss_one (ps_expr (pe_bm PySem.F.plainAttrs_list PySem.F.slot_list_append PySem.F.type_list_append mt_append (pv 2) (pa_cons pe_non pa_nil))))
        (pss_one (ps_expr (pe_bm PySem.F.plainAttrs_list PySem.F.slot_list_append PySem.F.type_list_append mt_append (pv 2) (pa_cons (pd GD hr (pa_cons (pv 0) (pa_cons (pv 1) pa_nil))) pa_nil)))))))
    (pss_one (ps_ret (pe_callTy call_tuple_of rfl M.tuple b_tuple (pa_cons (pv 2) pa_nil))))), ?_⟩
  refine ⟨Nat.zero_le _, fun L nL => ?_⟩
  have neL := hT.ne nL
  refine ⟨_, rfl, t, l, 12, rfl, hT.fresh nL _, by decide, fun k H1 k1 T1 p1 p2 => ⟨_, _, rfl, rfl, _, rfl, by omega, by omega, ?_⟩⟩
  have p3 := p2 (by decide)
  refine for_range (lo := 0) (n := (1 + k).toNat) (fun i σ H' => ∃ (y : Option V) (hs : Hold), σ = [some (.ref t), some (.int n), some (.ref L), y] ∧ Keep t H H' ∧ Tp H' t l ∧ H' L = some (.lst (hs.map hV)) ∧ hs.length = i ∧ ∀ m, some m ∈ hs → 0 ≤ m ∧ m < 12)
    ⟨none, [], rfl, (Keep.of (same_new nL _)).trans k1, T1, k1 _ _ neL.1 upd_same, rfl, fun m h => by cases h⟩ ?_ ?_
  · rintro i σ H2 hi ⟨y, hs, rfl, k2, T2, e2, len, ok⟩
    refine ⟨_, rfl, t, l, 4, rfl, T2, by decide, fun j H3 k3 T3 j0 _ => ⟨rfl, _, rfl, ?_⟩⟩
    have e3 := k3 _ _ neL.1 e2
    have len' : ((hs.map hV).length) < sizeLine := by rw [List.length_map]; exact small1000 (by omega)
    refine ite2 (fun _ => ?_) (fun _ => ?_)
    · refine ⟨_, rfl, .inl ⟨rfl, _, SqL.of e3⟩, L, _, _, rfl, rfl, e3, len', ?_⟩
      refine ⟨_, hs ++ [none], rfl, (k2.trans k3).back nL _, T3.put neL _, ?_, by rw [List.length_append, len]; rfl, fun m h => ?_⟩
      · rw [upd_same, List.map_append]
        rfl
      · rcases List.mem_append.mp h with h | h
        · exact ok m h
        · exact nomatch (List.mem_singleton.mp h)
    · refine ⟨_, rfl, .inl ⟨rfl, _, SqL.of e3⟩, _, rfl, _, rfl, t, l, n, rfl, T3, by omega, fun x H4 k4 T4 x0 x1 => ?_⟩
      have e4 := k4 _ _ neL.1 e3
      refine ⟨L, _, _, rfl, rfl, e4, len', ?_⟩
      have x2 := x1 n1
      refine ⟨_, hs ++ [some x], rfl, ((k2.trans k3).trans k4).back nL _, T4.put neL _, ?_, by rw [List.length_append, len]; rfl, fun m h => ?_⟩
      · rw [upd_same, List.map_append]
        rfl
      · rcases List.mem_append.mp h with h | h
        · exact ok m h
        · cases List.mem_singleton.mp h
          omega
  · rintro σ H2 ⟨y, hs, rfl, k2, T2, e2, len, ok⟩
    refine ⟨_, rfl, L, _, rfl, .inl ⟨SqL.of e2, fun p hp => ?_⟩⟩
    exact q p _ hs (k2.trans (Keep.of (same_new hp _))) (T2.fresh hp _) upd_same ⟨by omega, ok⟩
theorem ok_seats {fh : Addr} {fdh : FuncData} (F : Fun K "_law_seats" "_law_seats" sSeats f fd) (M : Txt mg) (GD : Df P w K mg base "_law_draw" 1 psDraw spDraw fw fdw) (GH : Df P w K mg base "_law_holders" 2 ["_law_tape_here", "_law_top"] spHolders fh fdh) :
    FnOk P w K mg base CX0 3 f fd ["_law_tape_here", "_law_most"] spSeats := by
  refine F.ok scSeats (fun vs H Q E h => ?_) (fun cdv A outer s H vs Q E hr h => ?_)
  · obtain ⟨t, l, n, rfl, _⟩ := h
    rfl
  obtain ⟨t, l, n, rfl, hT, n1, n2, q⟩ := h
  have hr1 : Room 1 _ := hr.mono (by decide)
  refine ⟨_, pss_cons (ps_set (i := 2) scSeats.nd rfl (.inl rfl) (pe_ix ix_list (pe_lst (pa_cons pe_int (pa_cons pe_int (pa_cons pe_int (pa_cons pe_int pa_nil))))) (pd GD hr1 (pa_cons (pv 0) (pa_cons pe_int pa_nil))) (fun _ _ => rfl)))
    (pss_cons (ps_set (i := 3) scSeats.nd rfl (.inl rfl) (pe_lst pa_nil))
    (pss_cons (ps_for PassesOwn.never rfl (pi_range1 rfl M.range (pa_cons (pe_op op_add pe_int (pd GD hr1 (pa_cons (pv 0) (pa_cons (pv 1) pa_nil)))) pa_nil)) (pg_name (i := 4) scSeats.nd rfl (.inl rfl))
      (pss_one (ps_expr (pe_bm PySem.F.plainAttrs_list PySem.F.slot_list_append PySem.F.type_list_append mt_append (pv 3) (pa_cons (pd GH hr (pa_cons (pv 0) (pa_cons (pv 2) pa_nil))) pa_nil)))))
    (pss_one (ps_ret (pe_callTy call_tuple_of rfl M.tuple b_tuple (pa_cons (pv 3) pa_nil)))))), ?_⟩
  refine ⟨(by show 4 ≤ sizeLine; decide), fun p0 n0 => ?_⟩
  refine ⟨_, rfl, t, l, 4, rfl, hT.fresh n0 _, by decide, fun j H1 k1 T1 j0 j1 => ?_⟩
  have ne0 := hT.ne n0
  obtain ⟨x, hx, hat⟩ := at_mem (xs := [V.int 12, .int 12, .int 4, .int 2]) j0 (by have := j1 (by decide); show j < 4; exact this)
  obtain ⟨top, rfl, t1, t2⟩ : ∃ top : Int, x = .int top ∧ 1 ≤ top ∧ top ≤ 12 := by
    simp only [List.mem_cons, List.mem_singleton, List.not_mem_nil, or_false] at hx
    rcases hx with rfl | rfl | rfl | rfl
    · exact ⟨12, rfl, by decide, by decide⟩
    · exact ⟨12, rfl, by decide, by decide⟩
    · exact ⟨4, rfl, by decide, by decide⟩
    · exact ⟨2, rfl, by decide, by decide⟩
  refine ⟨p0, _, j, _, rfl, rfl, SqL.of (k1 _ _ ne0.1 upd_same), hat, ?_⟩
  have kA := (Keep.of (t := t) (same_new n0 (.lst [V.int 12, .int 12, .int 4, .int 2]))).trans k1
  refine ⟨Nat.zero_le _, fun L nL => ?_⟩
  have neL := T1.ne nL
  refine ⟨_, rfl, _, rfl, t, l, n, rfl, T1.fresh nL _, by omega, fun k H2 k2 T2 q1 q2 => ⟨_, _, rfl, rfl, _, rfl, by omega, by have := q2 n1; omega, ?_⟩⟩
  have q3 := q2 n1
  refine for_range (lo := 0) (n := (1 + k).toNat) (fun i σ H' => ∃ (y : Option V) (vs : List V) (S : List Hold), σ = [some (.ref t), some (.int n), some (.int top), some (.ref L), y] ∧ Keep t H1 H' ∧ Tp H' t l ∧ H' L = some (.lst vs) ∧ AllP (IsHold H') vs S ∧ S.length = i ∧ ∀ hs ∈ S, HoldOk hs)
    ⟨none, [], [], rfl, (Keep.of (same_new nL _)).trans k2, T2, k2 _ _ neL.1 upd_same, AllP.nil, rfl, fun hs h => by cases h⟩ ?_ ?_
  · rintro i σ H3 hi ⟨y, vs, S, rfl, k3, T3, e3, al, len, ok⟩
    refine ⟨_, rfl, .inl ⟨rfl, _, SqL.of e3⟩, _, rfl, _, rfl, t, l, top, rfl, T3, t1, t2, fun p H4 hs k4 T4 e4 okh => ?_⟩
    have eL := k4 _ _ neL.1 e3
    have lv := al.1
    refine ⟨L, _, _, rfl, rfl, eL, small1000 (by omega), ?_⟩
    have U := Tups.lst eL (.lst (vs ++ [.ref p]))
    refine ⟨_, vs ++ [.ref p], S ++ [hs], rfl, (k3.trans k4).back nL _, T4.put neL _, upd_same, (al.mono fun _ _ h => (h.up (T3.tups k4)).up U).snoc ⟨p, rfl, U _ _ e4⟩, by rw [List.length_append, len]; rfl, fun g hg => ?_⟩
    rcases List.mem_append.mp hg with hg | hg
    · exact ok g hg
    · rw [List.mem_singleton.mp hg]
      exact okh
  · rintro σ H3 ⟨y, vs, S, rfl, k3, T3, e3, al, len, ok⟩
    refine ⟨_, rfl, L, _, rfl, .inl ⟨SqL.of e3, fun p hp => ?_⟩⟩
    have sP := same_new hp (.tup vs)
    exact q _ _ S ((kA.trans k3).trans (Keep.of sP)) (T3.fresh hp _) ⟨p, vs, rfl, upd_same, al.mono fun _ _ h => h.up (Tups.same sP)⟩ ⟨by omega, ok⟩
end
end Gz

namespace Gz
open PySem PySem.Spec PyProof.Rows L2

abbrev sLimits : Stmt := topS 18
abbrev sLeader : Stmt := topS 19
abbrev sThreshold : Stmt := topS 20
theorem scLimits : FnScope ["_law_tape_here", "_law_many", "_law_k"] ["_law_tape_here"] (defScope sLimits) := ⟨rfl, rfl, rfl, by decide +kernel, rfl, by decide +kernel, by decide +kernel⟩
theorem scLeader : FnScope ["_law_tape_here"] ["_law_tape_here"] (defScope sLeader) := ⟨rfl, rfl, rfl, by decide +kernel, rfl, by decide +kernel, by decide +kernel⟩
theorem scThreshold : FnScope ["_law_tape_here", "_law_choice"] ["_law_tape_here"] (defScope sThreshold) := ⟨rfl, rfl, rfl, by decide +kernel, rfl, by decide +kernel, by decide +kernel⟩
/-- a text of one sign -/
abbrev sgn (c : Nat) : Str := ⟨#[c]⟩
theorem joinL_signs : ∀ cs : List Nat, TL.joinL [] (cs.map fun c => [c]) = cs
  | [] => rfl
  | [_] => rfl
  | a :: b :: r => by
    have ih := joinL_signs (b :: r)
    show [a] ++ ([] ++ TL.joinL [] ((b :: r).map fun c => [c])) = a :: b :: r
    rw [ih]
    rfl
theorem join_signs (cs : List Nat) : (Txt.join ("" : Str) (cs.map sgn)).cps.toList = cs := by
  rw [TL.join_eq]
  have h := TL.tl_join ("" : Str) (cs.map sgn)
  show TL.tl (Str.join ("" : Str) (cs.map sgn)) = cs
  rw [h, List.map_map]
  exact joinL_signs cs
theorem sum_signs : ∀ cs : List Nat, ((cs.map sgn).map (·.length)).sum = cs.length
  | [] => rfl
  | c :: cs => by
    have ih := sum_signs cs
    rw [List.map_cons, List.map_cons, List.sum_cons, ih, List.length_cons]
    show 1 + cs.length = cs.length + 1
    omega
def spRoll : Sp := fun vs H Q _ => ∃ (t l : Addr) (n : Int), vs = [.ref t, .int n] ∧ Tp H t l ∧ 0 ≤ n ∧ n ≤ 12 ∧ ∀ (z : Str) (H' : Hp), Keep t H H' → Tp H' t l → RollOk z → z.cps.size = n.toNat → Q (.str z) H'
def LimOk (L : List Int) : Prop := L.length ≤ 8 ∧ ∀ x ∈ L, 0 ≤ x
def spLimits : Sp := fun vs H Q _ => ∃ (t l : Addr), vs = [.ref t] ∧ Tp H t l ∧ ∀ (v : V) (H' : Hp) (L : List Int), Keep t H H' → Tp H' t l → IsInts H' v L → LimOk L → Q v H'
def spLeader : Sp := fun vs H Q _ => ∃ (t l : Addr), vs = [.ref t] ∧ Tp H t l ∧ ∀ (m : Option Int) (H' : Hp), Keep t H H' → Tp H' t l → PremOk m → Q (hV m) H'
def spThreshold : Sp := fun vs H Q _ => ∃ (t l : Addr), vs = [.ref t] ∧ Tp H t l ∧ ∀ (v : V) (h : Thr) (H' : Hp), Keep t H H' → Tp H' t l → IsThr H' v h → h.Ok → Q v H'
section
variable {P : Program} {w : World} {K : PySem.W.Frag} {mg : Str → Option Value} {base : Heap} {f fw : Addr} {fd fdw : FuncData}
theorem six : (("YYNNP-" : Str)).cps.toList = [89, 89, 78, 78, 80, 45] := by decide +kernel
theorem ok_roll (F : Fun K "_law_roll" "_law_roll" sRoll f fd) (M : Txt mg) (GD : Df P w K mg base "_law_draw" 1 psDraw spDraw fw fdw) : FnOk P w K mg base CX0 2 f fd ["_law_tape_here", "_law_many"] spRoll := by
  refine F.ok scRoll (fun vs H Q E h => ?_) (fun cdv A outer s H vs Q E hr h => ?_)
  · obtain ⟨t, l, n, rfl, _⟩ := h
    rfl
  obtain ⟨t, l, n, rfl, hT, n1, n2, q⟩ := h
  refine ⟨_, pss_one (ps_ret (pe_join pe_str (pe_lc (own := [("_law_k", 2)]) (g := gName 2) (by rfl) scRoll.nd (pi_range1 rfl M.range (pa_cons (pv 1) pa_nil))
    (blkOk_by (own := [("_law_k", 2)]) (N := ["_law_tape_here", "_law_many", "_law_k"]) (sc := defScope sRoll) (by decide +kernel)) (fun _ _ _ _ _ => pg_name (i := 2) scRoll.nd rfl (Or.inl rfl)) (fun _ _ _ _ _ => pts_nil)
    (fun _ _ _ _ _ => pe_ix ix_str pe_str (pd GD hr (pa_cons (pv 0) (pa_cons pe_int pa_nil))) (fun _ _ => rfl))))), ?_⟩
  refine ⟨⟨_, rfl⟩, _, rfl, n, rfl, by omega, by omega, fun D nD => ?_⟩
  have neD := hT.ne nD
  refine lc_range (lo := 0) (n := n.toNat) (fun i H' => Keep t H H' ∧ Tp H' t l ∧ ∃ cs : List Nat, cs.length = i ∧ (∀ c ∈ cs, c = 89 ∨ c = 78 ∨ c = 80 ∨ c = 45) ∧ H' D = some (.lst ((cs.map sgn).map V.str)))
    ⟨Keep.of (same_new nD _), hT.fresh nD _, [], rfl, (fun c h => by cases h), upd_same⟩ ?_ ?_
  · rintro i H1 hi ⟨k1, T1, cs, len, ok, e1⟩
    refine ⟨rfl, _, rfl, t, l, 6, rfl, T1, by decide, fun j H2 k2 T2 j0 j1 => ?_⟩
    have j2 := j1 (by decide)
    obtain ⟨c, hc, hat⟩ := at_mem (xs := [89, 89, 78, 78, 80, 45]) j0 (by show j < 6; exact j2)
    refine ⟨_, j, c, rfl, rfl, (by show 6 ≤ sizeLine; decide), (by rw [six]; exact hat), ?_⟩
    have e2 := k2 _ _ neD.1 e1
    refine ⟨_, e2, by rw [List.length_map, List.length_map]; exact small1000 (by omega), (k1.trans k2).back nD _, T2.put neD _, cs ++ [c], by rw [List.length_append, len]; rfl, fun x hx => ?_, ?_⟩
    · rcases List.mem_append.mp hx with hx | hx
      · exact ok x hx
      · rw [List.mem_singleton.mp hx]
        simp only [List.mem_cons, List.mem_singleton, List.not_mem_nil, or_false] at hc
        omega
    · rw [upd_same, List.map_append, List.map_append]
      rfl
  · rintro H1 ⟨k1, T1, cs, len, ok, e1⟩
    refine ⟨_, D, cs.map sgn, rfl, rfl, .inl (SqL.of e1), ?_, ?_⟩
    · rw [sum_signs, List.length_map]
      show cs.length + cs.length * 0 ≤ 16777216
      omega
    · have ej := join_signs cs
      have es : (Txt.join ("" : Str) (cs.map sgn)).cps.size = cs.length := by rw [← Array.length_toList, ej]
      exact q _ H1 k1 T1 ⟨by omega, by rw [ej]; exact ok⟩ (by omega)
theorem ok_limits (F : Fun K "_law_limits" "_law_limits" sLimits f fd) (M : Txt mg) (GD : Df P w K mg base "_law_draw" 1 psDraw spDraw fw fdw) : FnOk P w K mg base CX0 2 f fd ["_law_tape_here"] spLimits := by
  refine F.ok scLimits (fun vs H Q E h => ?_) (fun cdv A outer s H vs Q E hr h => ?_)
  · obtain ⟨t, l, rfl, _⟩ := h
    rfl
  obtain ⟨t, l, rfl, hT, q⟩ := h
  refine ⟨_, pss_cons (ps_set (i := 1) scLimits.nd rfl (.inl rfl) (pe_ix ix_list (pe_lst (pa_cons pe_int (pa_cons pe_int (pa_cons pe_int (pa_cons (pd GD hr (pa_cons (pv 0) (pa_cons pe_int pa_nil))) pa_nil))))) (pd GD hr (pa_cons (pv 0) (pa_cons pe_int pa_nil))) (fun _ _ => rfl)))
    (pss_one (ps_ret (pe_callTy call_tuple_of rfl M.tuple b_tuple (pa_cons (pe_lc (own := [("_law_k", 2)]) (g := gName 2) (by rfl) scLimits.nd (pi_range1 rfl M.range (pa_cons (pv 1) pa_nil))
      (blkOk_by (own := [("_law_k", 2)]) (N := ["_law_tape_here", "_law_many", "_law_k"]) (sc := defScope sLimits) (by decide +kernel)) (fun _ _ _ _ _ => pg_name (i := 2) scLimits.nd rfl (Or.inl rfl)) (fun _ _ _ _ _ => pts_nil)
      (fun _ _ _ _ _ => pd GD hr (pa_cons (pv 0) (pa_cons (pe_ix (r := rIxL K) ix_list (pe_lst (pa_cons pe_int (pa_cons pe_int (pa_cons pe_int (pa_cons pe_int pa_nil))))) (pd GD hr (pa_cons (pv 0) (pa_cons pe_int pa_nil))) (fun _ _ => rfl)) pa_nil)))) pa_nil)))), ?_⟩
  refine ⟨_, rfl, t, l, 9, rfl, hT, by decide, fun a H1 k1 T1 a0 a1 => ⟨(by show 4 ≤ sizeLine; decide), fun p0 n0 => ?_⟩⟩
  have a2 := a1 (by decide)
  have ne0 := T1.ne n0
  refine ⟨_, rfl, t, l, 4, rfl, T1.fresh n0 _, by decide, fun j H2 k2 T2 j0 j1 => ?_⟩
  obtain ⟨x, hx, hat⟩ := at_mem (xs := [V.int 0, .int 1, .int 3, .int a]) j0 (by have := j1 (by decide); show j < 4; exact this)
  obtain ⟨n, rfl, t1, t2⟩ : ∃ n : Int, x = .int n ∧ 0 ≤ n ∧ n ≤ 8 := by
    simp only [List.mem_cons, List.mem_singleton, List.not_mem_nil, or_false] at hx
    rcases hx with rfl | rfl | rfl | rfl
    · exact ⟨0, rfl, by decide, by decide⟩
    · exact ⟨1, rfl, by decide, by decide⟩
    · exact ⟨3, rfl, by decide, by decide⟩
    · exact ⟨a, rfl, by omega, by omega⟩
  refine ⟨p0, _, j, _, rfl, rfl, SqL.of (k2 _ _ ne0.1 upd_same), hat, ?_⟩
  have kA := (k1.trans (Keep.of (same_new n0 (.lst [V.int 0, .int 1, .int 3, .int a])))).trans k2
  refine ⟨_, rfl, n, rfl, by omega, by omega, fun D nD => ?_⟩
  have neD := T2.ne nD
  refine lc_range (lo := 0) (n := n.toNat) (fun i H' => Keep t H2 H' ∧ Tp H' t l ∧ ∃ L : List Int, L.length = i ∧ (∀ x ∈ L, 0 ≤ x) ∧ H' D = some (.lst (L.map V.int)))
    ⟨Keep.of (same_new nD _), T2.fresh nD _, [], rfl, (fun c h => by cases h), upd_same⟩ ?_ ?_
  · rintro i H3 hi ⟨k3, T3, L, len, ok, e3⟩
    refine ⟨rfl, _, rfl, (by show 4 ≤ sizeLine; decide), fun p4 n4 => ?_⟩
    have ne4 := T3.ne n4
    refine ⟨_, rfl, t, l, 4, rfl, T3.fresh n4 _, by decide, fun b H4 k4 T4 b0 b1 => ?_⟩
    obtain ⟨x, hx, hat⟩ := at_mem (xs := [V.int 3, .int 14, .int 14, .int 1001]) b0 (by have := b1 (by decide); show b < 4; exact this)
    obtain ⟨u, rfl, u1, u2⟩ : ∃ u : Int, x = .int u ∧ 1 ≤ u ∧ u ≤ 1001 := by
      simp only [List.mem_cons, List.mem_singleton, List.not_mem_nil, or_false] at hx
      rcases hx with rfl | rfl | rfl | rfl
      · exact ⟨3, rfl, by decide, by decide⟩
      · exact ⟨14, rfl, by decide, by decide⟩
      · exact ⟨14, rfl, by decide, by decide⟩
      · exact ⟨1001, rfl, by decide, by decide⟩
    refine ⟨p4, _, b, _, rfl, rfl, SqL.of (k4 _ _ ne4.1 upd_same), hat, ?_⟩
    refine ⟨t, l, u, rfl, T4, by omega, fun y H5 k5 T5 y0 _ => ?_⟩
    have k35 := ((Keep.of (t := t) (same_new n4 (.lst [V.int 3, .int 14, .int 14, .int 1001]))).trans k4).trans k5
    have e5 := k35 _ _ neD.1 e3
    refine ⟨_, e5, by rw [List.length_map]; exact small1000 (by omega), (k3.trans k35).back nD _, T5.put neD _, L ++ [y], by rw [List.length_append, len]; rfl, fun x hx => ?_, ?_⟩
    · rcases List.mem_append.mp hx with hx | hx
      · exact ok x hx
      · rw [List.mem_singleton.mp hx]
        exact y0
    · rw [upd_same, List.map_append]
      rfl
  · rintro H3 ⟨k3, T3, L, len, ok, e3⟩
    refine ⟨D, _, rfl, .inl ⟨SqL.of e3, fun p hp => ?_⟩⟩
    exact q _ _ L ((kA.trans k3).trans (Keep.of (same_new hp _))) (T3.fresh hp _) ⟨p, rfl, upd_same⟩ ⟨by omega, ok⟩
theorem ok_leader (F : Fun K "_law_leader" "_law_leader" sLeader f fd) (M : Txt mg) (GD : Df P w K mg base "_law_draw" 1 psDraw spDraw fw fdw) : FnOk P w K mg base CX0 2 f fd ["_law_tape_here"] spLeader := by
  refine F.ok scLeader (fun vs H Q E h => ?_) (fun cdv A outer s H vs Q E hr h => ?_)
  · obtain ⟨t, l, rfl, _⟩ := h
    rfl
  obtain ⟨t, l, rfl, hT, q⟩ := h
  refine ⟨_, pss_one (ps_ret (pe_ix ix_list (pe_lst (pa_cons pe_non (pa_cons (pd GD hr (pa_cons (pv 0) (pa_cons pe_int pa_nil))) pa_nil)))
    (pe_callTy call_int1 rfl M.int b_int (pa_cons (pe_cmpR op_gt (pd GD hr (pa_cons (pv 0) (pa_cons pe_int pa_nil))) pe_int (nomark _)) pa_nil)) (fun _ _ => rfl))), ?_⟩
  refine ⟨_, rfl, t, l, 12, rfl, hT, by decide, fun a H1 k1 T1 a0 a1 => ⟨(by show 2 ≤ sizeLine; decide), fun p0 n0 => ?_⟩⟩
  have a2 := a1 (by decide)
  have ne0 := T1.ne n0
  refine ⟨_, rfl, t, l, 3, rfl, T1.fresh n0 _, by decide, fun j H2 k2 T2 j0 j1 => ⟨j, 0, rfl, rfl, .inr ⟨_, rfl, ?_⟩⟩⟩
  have kA := (k1.trans (Keep.of (same_new n0 (.lst [V.non, .int a])))).trans k2
  have e2 : H2 p0 = some (.lst [V.non, .int a]) := k2 _ _ ne0.1 upd_same
  cases decide (0 < j) with
  | false => exact ⟨p0, _, 0, _, rfl, rfl, SqL.of e2, rfl, q none H2 kA T2 (fun k h => by cases h)⟩
  | true => exact ⟨p0, _, 1, _, rfl, rfl, SqL.of e2, rfl, q (some a) H2 kA T2 (fun k h => by cases h; omega)⟩
theorem ok_threshold (F : Fun K "_law_threshold" "_law_threshold" sThreshold f fd) (M : Txt mg) (GD : Df P w K mg base "_law_draw" 1 psDraw spDraw fw fdw) : FnOk P w K mg base CX0 2 f fd ["_law_tape_here"] spThreshold := by
  refine F.ok scThreshold (fun vs H Q E h => ?_) (fun cdv A outer s H vs Q E hr h => ?_)
  · obtain ⟨t, l, rfl, _⟩ := h
    rfl
  obtain ⟨t, l, rfl, hT, q⟩ := h
  refine ⟨_, pss_cons (ps_set (i := 1) scThreshold.nd rfl (.inl rfl) (pd GD hr (pa_cons (pv 0) (pa_cons pe_int pa_nil))))
    (pss_cons (ps_if (pt_cmpR op_lt (pv 1) pe_int (nomark _)) (pss_one (ps_ret (pe_tup (pa_cons pe_str (pa_cons (pd GD hr (pa_cons (pv 0) (pa_cons (pe_ix ix_list (pe_lst (pa_cons pe_int (pa_cons pe_int pa_nil))) (pd GD hr (pa_cons (pv 0) (pa_cons pe_int pa_nil))) (fun _ _ => rfl)) pa_nil))) pa_nil))))) pss_nil)
    (pss_cons (ps_if (pt_cmpR op_eq (pv 1) pe_int (nomark _)) (pss_one (ps_ret (pe_ix ix_list (pe_lst (pa_cons pe_int (pa_cons pe_int (pa_cons pe_int (pa_cons pe_int pa_nil))))) (pd GD hr (pa_cons (pv 0) (pa_cons pe_int pa_nil))) (fun _ _ => rfl)))) pss_nil)
    (pss_cons (ps_if (pt_cmpR op_eq (pv 1) pe_int (nomark _)) (pss_one (ps_ret (pd GD hr (pa_cons (pv 0) (pa_cons pe_int pa_nil))))) pss_nil)
    (pss_one (ps_ret (pd GD hr (pa_cons (pv 0) (pa_cons pe_int pa_nil)))))))), ?_⟩
  refine ⟨_, rfl, t, l, 8, rfl, hT, by decide, fun a H1 k1 T1 a0 a1 => ⟨_, rfl, _, _, rfl, rfl, _, rfl, ?_⟩⟩
  refine ite2 (fun _ => ?_) (fun _ => ⟨_, rfl, rfl, _, rfl, ite2 (fun _ => ?_) (fun _ => ⟨_, rfl, rfl, _, rfl, ite2 (fun _ => ?_) (fun _ => ?_)⟩)⟩)
  · refine ⟨_, rfl, (by show 2 ≤ sizeLine; decide), fun p0 n0 => ?_⟩
    have ne0 := T1.ne n0
    refine ⟨_, rfl, t, l, 2, rfl, T1.fresh n0 _, by decide, fun b H2 k2 T2 b0 b1 => ?_⟩
    obtain ⟨x, hx, hat⟩ := at_mem (xs := [V.int 3, .int 8]) b0 (by have := b1 (by decide); show b < 2; exact this)
    obtain ⟨u, rfl, u1, u2⟩ : ∃ u : Int, x = .int u ∧ 1 ≤ u ∧ u ≤ 8 := by
      simp only [List.mem_cons, List.mem_singleton, List.not_mem_nil, or_false] at hx
      rcases hx with rfl | rfl
      · exact ⟨3, rfl, by decide, by decide⟩
      · exact ⟨8, rfl, by decide, by decide⟩
    refine ⟨p0, _, b, _, rfl, rfl, SqL.of (k2 _ _ ne0.1 upd_same), hat, t, l, u, rfl, T2, by omega, fun y H3 k3 T3 y0 y1 => ⟨(by show 2 ≤ sizeLine; decide), fun p np => ?_⟩⟩
    have y2 := y1 u1
    exact q _ (.par y) _ (((k1.trans (Keep.of (same_new n0 _))).trans (k2.trans k3)).trans (Keep.of (same_new np _))) (T3.fresh np _) ⟨p, rfl, upd_same⟩ ⟨y0, by omega⟩
  · refine ⟨(by show 4 ≤ sizeLine; decide), fun p0 n0 => ?_⟩
    have ne0 := T1.ne n0
    refine ⟨_, rfl, t, l, 4, rfl, T1.fresh n0 _, by decide, fun b H4 k4 T4 b0 b1 => ?_⟩
    obtain ⟨x, hx, hat⟩ := at_mem (xs := [V.int 0, .int 1, .int 999, .int 1000]) b0 (by have := b1 (by decide); show b < 4; exact this)
    obtain ⟨u, rfl⟩ : ∃ u : Int, x = .int u := by
      simp only [List.mem_cons, List.mem_singleton, List.not_mem_nil, or_false] at hx
      rcases hx with rfl | rfl | rfl | rfl <;> exact ⟨_, rfl⟩
    exact ⟨p0, _, b, _, rfl, rfl, SqL.of (k4 _ _ ne0.1 upd_same), hat, q _ (.num u) H4 ((k1.trans (Keep.of (same_new n0 _))).trans k4) T4 rfl trivial⟩
  · exact ⟨_, rfl, t, l, 1001, rfl, T1, by decide, fun b H2 k2 T2 b0 _ => q _ (.num b) H2 (k1.trans k2) T2 rfl trivial⟩
  · exact ⟨_, rfl, t, l, 14, rfl, T1, by decide, fun b H2 k2 T2 b0 _ => q _ (.num b) H2 (k1.trans k2) T2 rfl trivial⟩
end
end Gz

namespace Gz
open PySem PySem.Spec PyProof.Rows L2

abbrev sSimple : Stmt := topS 21
abbrev sRule : Stmt := topS 22
theorem scSimple : FnScope ["_law_tape_here", "_law_chambers", "_law_kinds", "_law_chamber", "_law_kind", "_law_share", "_law_q"] ["_law_tape_here", "_law_chambers", "_law_kinds"] (defScope sSimple) := ⟨rfl, rfl, rfl, by decide +kernel, rfl, by decide +kernel, by decide +kernel⟩
theorem scRule : FnScope ["_law_tape_here", "_law_chambers", "_law_kinds", "_law_depth", "_law_choice", "_law_first"] ["_law_tape_here", "_law_chambers", "_law_kinds", "_law_depth"] (defScope sRule) := ⟨rfl, rfl, rfl, by decide +kernel, rfl, by decide +kernel, by decide +kernel⟩
def KindOk (k : Str) : Prop := k = "yeas" ∨ k = "quorum" ∨ k = "majority" ∨ k = "fraction" ∨ k = "premier"
/-- the lists from which a rule is drawn -/
structure Src (H : Hp) (t C D : Addr) (cs : List Int) (ks : List Str) : Prop where
  hc : H C = some (.lst (cs.map V.int))
  nc : C ≠ t
  hd : H D = some (.lst (ks.map V.str))
  nd : D ≠ t
  c0 : 1 ≤ cs.length ∧ cs.length ≤ 100
  k0 : 1 ≤ ks.length ∧ ks.length ≤ 100
  cok : ∀ c ∈ cs, 0 ≤ c
  kok : ∀ k ∈ ks, KindOk k
theorem Src.keep {H H' : Hp} {t C D : Addr} {cs : List Int} {ks : List Str} (s : Src H t C D cs ks) (k : Keep t H H') : Src H' t C D cs ks :=
  ⟨k _ _ s.nc s.hc, s.nc, k _ _ s.nd s.hd, s.nd, s.c0, s.k0, s.cok, s.kok⟩
def spSimple : Sp := fun vs H Q _ => ∃ (t l C D : Addr) (cs : List Int) (ks : List Str), vs = [.ref t, .ref C, .ref D] ∧ Tp H t l ∧ Src H t C D cs ks ∧
  ∀ (v : V) (r : Rule) (H' : Hp), Keep t H H' → Tp H' t l → IsRule H' r v → r.Ok → r.depth = 0 → Q v H'
abbrev psSrc : List Str := ["_law_tape_here", "_law_chambers", "_law_kinds"]
section
variable {P : Program} {w : World} {K : PySem.W.Frag} {mg : Str → Option Value} {base : Heap} {f fw : Addr} {fd fdw : FuncData}
theorem at_map {α : Type} {g : α → V} {xs : List α} {k : Int} (h0 : 0 ≤ k) (h : k < (xs.length : Int)) : ∃ x, x ∈ xs ∧ atI (xs.map g) k = some (g x) := by
  obtain ⟨y, hy, e⟩ := at_mem (xs := xs.map g) h0 (by rw [List.length_map]; exact h)
  obtain ⟨x, hx, rfl⟩ := List.mem_map.mp hy
  exact ⟨x, hx, e⟩
theorem at_den {k : Int} (h0 : 0 ≤ k) (h : k < 3) : ∃ d : Den, atI [V.str "seats", .str "attending", .str "voting"] k = some (.str (dStr d)) := by
  obtain ⟨d, _, e⟩ := at_map (g := fun d => V.str (dStr d)) (xs := [Den.seats, .attending, .voting]) h0 (by show k < 3; exact h)
  exact ⟨d, e⟩
theorem ok_simple {ft : Addr} {fdt : FuncData} (F : Fun K "_law_simple" "_law_simple" sSimple f fd) (M : Txt mg) (GD : Df P w K mg base "_law_draw" 1 psDraw spDraw fw fdw) (GT : Df P w K mg base "_law_threshold" 2 ["_law_tape_here"] spThreshold ft fdt) :
    FnOk P w K mg base CX0 3 f fd psSrc spSimple := by
  refine F.ok scSimple (fun vs H Q E h => ?_) (fun cdv A outer s H vs Q E hr h => ?_)
  · obtain ⟨t, l, C, D, cs, ks, rfl, _⟩ := h
    rfl
  obtain ⟨t, l, C, D, cs, ks, rfl, hT, hS, q⟩ := h
  have hr1 : Room 1 _ := hr.mono (by decide)
  refine ⟨_, pss_cons (ps_set (i := 3) scSimple.nd rfl (.inl rfl) (pe_ix ix_list (pv 1) (pd GD hr1 (pa_cons (pv 0) (pa_cons (pe_callB call_len_seq rfl M.len b_len (pa_cons (pv 1) pa_nil)) pa_nil))) (fun _ _ => rfl)))
    (pss_cons (ps_set (i := 4) scSimple.nd rfl (.inl rfl) (pe_ix ix_list (pv 2) (pd GD hr1 (pa_cons (pv 0) (pa_cons (pe_callB call_len_seq rfl M.len b_len (pa_cons (pv 2) pa_nil)) pa_nil))) (fun _ _ => rfl)))
    (pss_cons (ps_if (pt_cmpR op_eq (pv 4) pe_str (nomark _)) (pss_one (ps_ret (pe_tup (pa_cons pe_str pa_nil)))) pss_nil)
    (pss_cons (ps_if (PW.pt (pw_or (pt_cmpR op_eq (pv 4) pe_str (nomark _)) (pw_or1 (pt_cmpR op_eq (pv 4) pe_str (nomark _))))) (pss_one (ps_ret (pe_tup (pa_cons (pv 4) (pa_cons (pv 3) (pa_cons (pd GT hr (pa_cons (pv 0) pa_nil)) pa_nil)))))) pss_nil)
    (pss_cons (ps_set (i := 5) scSimple.nd rfl (.inl rfl) (pe_ix ix_list (pe_lst (pa_cons pe_str (pa_cons pe_str (pa_cons pe_str pa_nil)))) (pd GD hr1 (pa_cons (pv 0) (pa_cons pe_int pa_nil))) (fun _ _ => rfl)))
    (pss_cons (ps_if (pt_cmpR op_eq (pv 4) pe_str (nomark _)) (pss_one (ps_ret (pe_tup (pa_cons pe_str (pa_cons (pv 3) (pa_cons (pv 5) pa_nil)))))) pss_nil)
    (pss_cons (ps_set (i := 6) scSimple.nd rfl (.inl rfl) (pe_op op_add pe_int (pd GD hr1 (pa_cons (pv 0) (pa_cons pe_int pa_nil)))))
    (pss_one (ps_ret (pe_tup (pa_cons pe_str (pa_cons (pv 3) (pa_cons (pe_op op_add pe_int (pd GD hr1 (pa_cons (pv 0) (pa_cons (pv 6) pa_nil)))) (pa_cons (pv 6) (pa_cons (pv 5) pa_nil)))))))))))))), ?_⟩
  have lc : (cs.map V.int).length = cs.length := List.length_map _
  have lk : (ks.map V.str).length = ks.length := List.length_map _
  have c0 := hS.c0
  have k0 := hS.k0
  refine ⟨_, rfl, _, rfl, _, rfl, C, _, rfl, .inl (SqL.of hS.hc), t, l, _, rfl, hT, by rw [lc]; omega, fun a H1 k1 T1 a0 a1 => ?_⟩
  obtain ⟨c, hcm, hca⟩ := at_map (g := V.int) (xs := cs) a0 (by rw [lc] at a1; exact a1 (by omega))
  have S1 := hS.keep k1
  refine ⟨C, _, a, _, rfl, rfl, SqL.of S1.hc, hca, ?_⟩
  refine ⟨_, rfl, _, rfl, _, rfl, D, _, rfl, .inl (SqL.of S1.hd), t, l, _, rfl, T1, by rw [lk]; omega, fun b H2 k2 T2 b0 b1 => ?_⟩
  obtain ⟨k, hkm, hka⟩ := at_map (g := V.str) (xs := ks) b0 (by rw [lk] at b1; exact b1 (by omega))
  have S2 := S1.keep k2
  refine ⟨D, _, b, _, rfl, rfl, SqL.of S2.hd, hka, ?_⟩
  have k12 := k1.trans k2
  have hc := hS.cok c hcm
  rcases hS.kok k hkm with rfl | rfl | rfl | rfl | rfl
  · -- yeas
    refine ⟨_, rfl, rfl, _, rfl, ifN (by decide +kernel) ⟨_, rfl, rfl, _, rfl, ifP (by decide +kernel) (ifP rfl ?_)⟩⟩
    refine ⟨_, rfl, _, rfl, _, rfl, t, l, rfl, T2, fun v h H3 k3 T3 hV hok => ⟨(by show 3 ≤ sizeLine; decide), fun p np => ?_⟩⟩
    have sP := same_new np (.tup [.str "yeas", .int c, v])
    exact q _ (.yeas c h) _ ((k12.trans k3).trans (Keep.of sP)) (T3.fresh np _) ⟨p, v, rfl, upd_same, hV.up (Tups.same sP)⟩ ⟨hc, hok⟩ rfl
  · -- quorum
    refine ⟨_, rfl, rfl, _, rfl, ifN (by decide +kernel) ⟨_, rfl, rfl, _, rfl, ifN (by decide +kernel) ⟨_, rfl, rfl, _, rfl, ifP (by decide +kernel) ?_⟩⟩⟩
    refine ⟨_, rfl, _, rfl, _, rfl, t, l, rfl, T2, fun v h H3 k3 T3 hV hok => ⟨(by show 3 ≤ sizeLine; decide), fun p np => ?_⟩⟩
    have sP := same_new np (.tup [.str "quorum", .int c, v])
    exact q _ (.quorum c h) _ ((k12.trans k3).trans (Keep.of sP)) (T3.fresh np _) ⟨p, v, rfl, upd_same, hV.up (Tups.same sP)⟩ ⟨hc, hok⟩ rfl
  · -- majority
    refine ⟨_, rfl, rfl, _, rfl, ifN (by decide +kernel) ⟨_, rfl, rfl, _, rfl, ifN (by decide +kernel) ⟨_, rfl, rfl, _, rfl, ifN (by decide +kernel) ?_⟩⟩⟩
    refine ⟨(by show 3 ≤ sizeLine; decide), fun p0 n0 => ⟨_, rfl, t, l, 3, rfl, T2.fresh n0 _, by decide, fun j H3 k3 T3 j0 j1 => ?_⟩⟩
    obtain ⟨d, hd⟩ := at_den j0 (j1 (by decide))
    refine ⟨p0, _, j, _, rfl, rfl, SqL.of (k3 _ _ (T2.ne n0).1 upd_same), hd, ?_⟩
    refine ⟨_, rfl, rfl, _, rfl, ifP (by decide +kernel) ⟨_, rfl, _, rfl, (by show 3 ≤ sizeLine; decide), fun p np => ?_⟩⟩
    exact q _ (.majority c d) _ ((k12.trans ((Keep.of (same_new n0 _)).trans k3)).trans (Keep.of (same_new np _))) (T3.fresh np _) ⟨p, rfl, upd_same⟩ hc rfl
  · -- fraction
    refine ⟨_, rfl, rfl, _, rfl, ifN (by decide +kernel) ⟨_, rfl, rfl, _, rfl, ifN (by decide +kernel) ⟨_, rfl, rfl, _, rfl, ifN (by decide +kernel) ?_⟩⟩⟩
    refine ⟨(by show 3 ≤ sizeLine; decide), fun p0 n0 => ⟨_, rfl, t, l, 3, rfl, T2.fresh n0 _, by decide, fun j H3 k3 T3 j0 j1 => ?_⟩⟩
    obtain ⟨d, hd⟩ := at_den j0 (j1 (by decide))
    refine ⟨p0, _, j, _, rfl, rfl, SqL.of (k3 _ _ (T2.ne n0).1 upd_same), hd, ?_⟩
    refine ⟨_, rfl, rfl, _, rfl, ifN (by decide +kernel) ⟨_, rfl, t, l, 12, rfl, T3, by decide, fun x H4 k4 T4 x0 x1 => ⟨_, _, rfl, rfl, ?_⟩⟩⟩
    have x2 := x1 (by decide)
    refine ⟨_, rfl, _, rfl, _, rfl, t, l, _, rfl, T4, by omega, fun y H5 k5 T5 y0 y1 => ⟨_, _, rfl, rfl, _, rfl, _, rfl, (by show 5 ≤ sizeLine; decide), fun p np => ?_⟩⟩
    have y2 := y1 (by omega)
    exact q _ (.fraction c (1 + y) (1 + x) d) _ (((k12.trans ((Keep.of (same_new n0 _)).trans k3)).trans (k4.trans k5)).trans (Keep.of (same_new np _))) (T5.fresh np _) ⟨p, rfl, upd_same⟩ ⟨hc, by omega, by omega, by omega, by omega⟩ rfl
  · -- premier
    refine ⟨_, rfl, rfl, _, rfl, ifP (by decide +kernel) ⟨(by show 1 ≤ sizeLine; decide), fun p np => ?_⟩⟩
    exact q _ .premier _ (k12.trans (Keep.of (same_new np _))) (T2.fresh np _) ⟨p, rfl, upd_same⟩ trivial rfl

def spRule (n : Nat) : Sp := fun vs H Q _ => ∃ (t l C D : Addr) (cs : List Int) (ks : List Str) (d : Int), vs = [.ref t, .ref C, .ref D, .int d] ∧ Tp H t l ∧ Src H t C D cs ks ∧ 1 ≤ d ∧ d ≤ n ∧
  ∀ (v : V) (r : Rule) (H' : Hp), Keep t H H' → Tp H' t l → IsRule H' r v → r.Ok → (r.depth : Int) < d → Q v H'
abbrev psRule : List Str := ["_law_tape_here", "_law_chambers", "_law_kinds", "_law_depth"]
theorem rule_step {n : Nat} {fm : Addr} {fdm : FuncData} (F : Fun K "_law_rule" "_law_rule" sRule f fd) (GD : Df P w K mg base "_law_draw" 1 psDraw spDraw fw fdw) (GS : Df P w K mg base "_law_simple" 3 psSrc spSimple fm fdm) (G : Df P w K mg base "_law_rule" (n + 3) psRule (spRule n) f fd) :
    FnOk P w K mg base CX0 (n + 4) f fd psRule (spRule (n + 1)) := by
  refine F.ok scRule (fun vs H Q E h => ?_) (fun cdv A outer s H vs Q E hr h => ?_)
  · obtain ⟨t, l, C, D, cs, ks, d, rfl, _⟩ := h
    rfl
  obtain ⟨t, l, C, D, cs, ks, d, rfl, hT, hS, d1, d2, q⟩ := h
  have hr1 : Room 1 _ := hr.mono (by omega)
  have hr3 : Room 3 _ := hr.mono (by omega)
  refine ⟨_, pss_cons (ps_set (i := 4) scRule.nd rfl (.inl rfl) (pd GD hr1 (pa_cons (pv 0) (pa_cons pe_int pa_nil))))
    (pss_cons (ps_if (PW.pt (pw_and (pt_cmpR op_gt (pv 3) pe_int (nomark _)) (pw_and1 (pt_cmpR op_lt (pv 4) pe_int (nomark _)))))
      (pss_cons (ps_set (i := 5) scRule.nd rfl (.inl rfl) (pd G hr (pa_cons (pv 0) (pa_cons (pv 1) (pa_cons (pv 2) (pa_cons (pe_op op_sub (pv 3) pe_int) pa_nil))))))
      (pss_one (ps_ret (pe_tup (pa_cons (pe_ix ix_list (pe_lst (pa_cons pe_str (pa_cons pe_str (pa_cons pe_str (pa_cons pe_str pa_nil))))) (pv 4) (fun _ _ => rfl)) (pa_cons (pv 5) (pa_cons (pd G hr (pa_cons (pv 0) (pa_cons (pv 1) (pa_cons (pv 2) (pa_cons (pe_op op_sub (pv 3) pe_int) pa_nil))))) pa_nil))))))) pss_nil)
    (pss_one (ps_ret (pd GS hr3 (pa_cons (pv 0) (pa_cons (pv 1) (pa_cons (pv 2) pa_nil))))))), ?_⟩
  refine ⟨_, rfl, t, l, 7, rfl, hT, by decide, fun a H1 k1 T1 a0 a1 => ?_⟩
  have S1 := hS.keep k1
  have leaf : spSimple [.ref t, .ref C, .ref D] H1 Q E0 := ⟨t, l, C, D, cs, ks, rfl, T1, S1, fun v r H2 k2 T2 hR ok dp => q v r H2 (k1.trans k2) T2 hR ok (by omega)⟩
  refine ⟨_, rfl, _, _, rfl, rfl, _, rfl, ite2 (fun g1 => ?_) (fun g1 => ifN (by decide) ⟨_, rfl, _, rfl, _, rfl, leaf⟩)⟩
  have g1' : 1 < d := of_decide_eq_true g1
  refine ⟨_, rfl, _, _, rfl, rfl, _, rfl, ite2 (fun g2 => ?_) (fun g2 => ⟨_, rfl, _, rfl, _, rfl, leaf⟩)⟩
  have g2' : a < 4 := of_decide_eq_true g2
  refine ⟨_, rfl, _, rfl, _, rfl, _, rfl, _, _, rfl, rfl, t, l, C, D, cs, ks, d - 1, rfl, T1, S1, by omega, by omega, fun v1 r1 H2 k2 T2 hR1 ok1 dp1 => ?_⟩
  refine ⟨(by show 4 ≤ sizeLine; decide), fun p0 n0 => ?_⟩
  obtain ⟨x, hx, hat⟩ := at_mem (xs := [V.str "all", .str "any", .str "all", .str "any"]) a0 (by show a < 4; exact g2')
  refine ⟨_, rfl, p0, _, a, _, rfl, rfl, SqL.of upd_same, hat, ?_⟩
  have s0 := same_new n0 (.lst [V.str "all", .str "any", .str "all", .str "any"])
  refine ⟨_, rfl, _, rfl, _, rfl, _, rfl, _, rfl, _, _, rfl, rfl, t, l, C, D, cs, ks, d - 1, rfl, T2.fresh n0 _, (S1.keep k2).keep (Keep.of s0), by omega, by omega, fun v2 r2 H3 k3 T3 hR2 ok2 dp2 => ⟨(by show 3 ≤ sizeLine; decide), fun p np => ?_⟩⟩
  have sP := same_new np (.tup [x, v1, v2])
  have kk := (((k1.trans k2).trans (Keep.of s0)).trans k3).trans (Keep.of sP)
  have U := Tups.same sP
  have U1 : Tups H2 _ := ((Tups.same s0).trans ((T2.fresh n0 _).tups k3)).trans U
  simp only [List.mem_cons, List.mem_singleton, List.not_mem_nil, or_false] at hx
  have hx2 : x = .str "all" ∨ x = .str "any" := by
    rcases hx with h | h | h | h
    · exact .inl h
    · exact .inr h
    · exact .inl h
    · exact .inr h
  have dm : ((max r1.depth r2.depth + 1 : Nat) : Int) < d := by
    have : max r1.depth r2.depth ≤ max r1.depth r2.depth := Nat.le_refl _
    rcases Nat.le_total r1.depth r2.depth with h | h
    · rw [Nat.max_eq_right h]
      omega
    · rw [Nat.max_eq_left h]
      omega
  rcases hx2 with rfl | rfl
  · exact q _ (.all r1 r2) _ kk (T3.fresh np _) ⟨p, v1, v2, rfl, upd_same, hR1.up U1, hR2.up U⟩ ⟨ok1, ok2⟩ dm
  · exact q _ (.any r1 r2) _ kk (T3.fresh np _) ⟨p, v1, v2, rfl, upd_same, hR1.up U1, hR2.up U⟩ ⟨ok1, ok2⟩ dm
theorem rule_none {k : Nat} : FnOk P w K mg base CX0 k f fd psRule (spRule 0) := by
  have no : ∀ vs H Q E, ¬ spRule 0 vs H Q E := fun vs H Q E h => by
    obtain ⟨t, l, C, D, cs, ks, d, _, _, _, h1, h2, _⟩ := h
    omega
  exact ⟨fun vs H Q E h => absurd h (no vs H Q E), fun A outer s H args us vs Q E _ _ _ _ h => absurd h (no vs H Q E)⟩
theorem df_rule {fm : Addr} {fdm : FuncData} (a : At K mg "_law_rule" sRule psRule f fd) (GD : Df P w K mg base "_law_draw" 1 psDraw spDraw fw fdw) (GS : Df P w K mg base "_law_simple" 3 psSrc spSimple fm fdm) : ∀ n : Nat, Df P w K mg base "_law_rule" (n + 3) psRule (spRule n) f fd
  | 0 => a.df rule_none
  | n + 1 => a.df (rule_step a.fn GD GS (df_rule a GD GS n))
end
end Gz

namespace Gz
open PySem PySem.Spec PyProof.Rows L2

/-! ### the law's own reckoning -/
abbrev sSame : Stmt := topS 13
abbrev sLTally : Stmt := topS 17
abbrev sLimit : Stmt := topS 23
abbrev sByC : Stmt := topS 24
theorem scSame : FnScope ["_law_actual", "_law_expected", "_law_k"] ["_law_actual", "_law_expected"] (defScope sSame) := ⟨rfl, rfl, rfl, by decide +kernel, rfl, by decide +kernel, by decide +kernel⟩
theorem scLTally : FnScope ["_law_seats_here", "_law_roll_here", "_law_chamber", "_law_counts", "_law_holder", "_law_vote"] ["_law_seats_here", "_law_roll_here", "_law_chamber"] (defScope sLTally) := ⟨rfl, rfl, rfl, by decide +kernel, rfl, by decide +kernel, by decide +kernel⟩
theorem scLimit : FnScope ["_law_threshold_here", "_law_limits_here"] ["_law_threshold_here", "_law_limits_here"] (defScope sLimit) := ⟨rfl, rfl, rfl, by decide +kernel, rfl, by decide +kernel, by decide +kernel⟩
theorem scByC : FnScope ["_law_rule_here", "_law_counts", "_law_limits_here", "_law_attending", "_law_share"] ["_law_rule_here", "_law_counts", "_law_limits_here"] (defScope sByC) := ⟨rfl, rfl, rfl, by decide +kernel, rfl, by decide +kernel, by decide +kernel⟩
/-- the same data, of a depth -/
def Eqs (H : Hp) : Nat → V → V → Prop
  | 0, u, v => (∃ i : Int, u = .int i ∧ v = .int i) ∨ ∃ b : Bool, u = .bl b ∧ v = .bl b
  | n + 1, u, v => ∃ (a b : Addr) (xs ys : List V), u = .ref a ∧ v = .ref b ∧ H a = some (.tup xs) ∧ H b = some (.tup ys) ∧ xs.length ≤ 1000 ∧ AllP (Eqs H n) xs ys
def spSame (n : Nat) : Sp := fun vs H Q _ => ∃ (u v : V) (m : Nat), vs = [u, v] ∧ m < n ∧ Eqs H m u v ∧ Q (.bl true) H
abbrev psSame : List Str := ["_law_actual", "_law_expected"]
section
variable {P : Program} {w : World} {K : PySem.W.Frag} {mg : Str → Option Value} {base : Heap} {f fw : Addr} {fd fdw : FuncData}
theorem same_step {n : Nat} (F : Fun K "_law_same" "_law_same" sSame f fd) (M : Txt mg) (G : Df P w K mg base "_law_same" n psSame (spSame n) f fd) : FnOk P w K mg base CX0 (n + 1) f fd psSame (spSame (n + 1)) := by
  refine F.ok scSame (fun vs H Q E h => ?_) (fun cdv A outer s H vs Q E hr h => ?_)
  · obtain ⟨u, v, m, rfl, _⟩ := h
    rfl
  obtain ⟨u, v, m, rfl, hm, hE, q⟩ := h
  refine ⟨_, pss_cons (ps_if (pt_cmpR op_isN (pv 1) pe_non (nomark _)) (pss_one (ps_ret (pe_cmp (pc_isN (pv 0)) rfl))) pss_nil)
    (pss_cons (ps_if (pt_val (p_isi M.isi M.tuple b_tuple (pv 1)))
      (pss_cons (ps_if (PW.pt (pw_or (pt_not (pt_val (p_isi M.isi M.tuple b_tuple (pv 0)))) (pw_or1 (pt_cmpR op_ne (pe_callB call_len_seq rfl M.len b_len (pa_cons (pv 0) pa_nil)) (pe_callB call_len_seq rfl M.len b_len (pa_cons (pv 1) pa_nil)) (nomark _))))) (pss_one (ps_ret pe_bl)) pss_nil)
      (pss_cons (ps_for PassesOwn.never rfl (pi_range1 rfl M.range (pa_cons (pe_callB call_len_seq rfl M.len b_len (pa_cons (pv 1) pa_nil)) pa_nil)) (pg_name (i := 2) scSame.nd rfl (.inl rfl))
        (pss_one (ps_if (pt_not (pt_val (pd G hr (pa_cons (pe_ix ix_tup (pv 0) (pv 2) (fun _ _ => rfl)) (pa_cons (pe_ix ix_tup (pv 1) (pv 2) (fun _ _ => rfl)) pa_nil))))) (pss_one (ps_ret pe_bl)) pss_nil)))
      (pss_one (ps_ret pe_bl)))) pss_nil)
    (pss_cons (ps_if (pt_val (p_isi M.isi M.bool b_bool (pv 1))) (pss_one (ps_ret (pe_and (p_isi M.isi M.bool b_bool (pv 0)) (pe_one (pe_cmpR op_eq (pv 0) (pv 1) (nomark _)))))) pss_nil)
    (pss_cons (ps_if (pt_val (p_isi M.isi M.str b_str (pv 1))) (pss_one (ps_ret (pe_and (p_isi M.isi M.str b_str (pv 0)) (pe_one (pe_cmpR op_eq (pv 0) (pv 1) (nomark _)))))) pss_nil)
    (pss_one (ps_ret (pe_and (p_isi M.isi M.int b_int (pv 0)) (pe_and (pe_not (p_isi M.isi M.bool b_bool (pv 0))) (pe_one (pe_cmpR op_eq (pv 0) (pv 1) (nomark _)))))))))), ?_⟩
  cases m with
  | zero =>
    rcases hE with ⟨i, rfl, rfl⟩ | ⟨b, rfl, rfl⟩
    · refine ⟨_, rfl, rfl, _, rfl, ifN (by simp) ?_⟩
      refine ⟨_, rfl, _, _, false, rfl, .base (.int i), by decide +kernel, _, rfl, ifN (by decide) ?_⟩
      refine ⟨_, rfl, _, _, false, rfl, .base (.int i), by decide +kernel, _, rfl, ifN (by decide) ?_⟩
      refine ⟨_, rfl, _, _, false, rfl, .base (.int i), by decide +kernel, _, rfl, ifN (by decide) ?_⟩
      refine ⟨_, rfl, _, _, true, rfl, .base (.int i), by decide +kernel, _, rfl, ifP rfl ?_⟩
      refine ⟨_, rfl, _, _, false, rfl, .base (.int i), by decide +kernel, _, rfl, _, rfl, ifP rfl ?_⟩
      refine ⟨_, rfl, _, rfl, rfl, ?_⟩
      rw [decide_eq_true rfl]
      exact q
    · refine ⟨_, rfl, rfl, _, rfl, ifN (by simp) ?_⟩
      refine ⟨_, rfl, _, _, false, rfl, .base (.bl b), by decide +kernel, _, rfl, ifN (by decide) ?_⟩
      refine ⟨_, rfl, _, _, true, rfl, .base (.bl b), by decide +kernel, _, rfl, ifP rfl ?_⟩
      refine ⟨_, rfl, _, _, true, rfl, .base (.bl b), by decide +kernel, _, rfl, ifP rfl ?_⟩
      refine ⟨_, rfl, _, rfl, rfl, ?_⟩
      rw [decide_eq_true rfl]
      exact q
  | succ m =>
    obtain ⟨a, b, xs, ys, rfl, rfl, hA, hB, hl, al⟩ := hE
    have hl2 := al.1
    refine ⟨_, rfl, rfl, _, rfl, ifN (by simp) ?_⟩
    refine ⟨_, rfl, _, _, true, rfl, .base (.tup hB), by decide +kernel, _, rfl, ifP rfl ?_⟩
    refine ⟨_, rfl, _, _, true, rfl, .base (.tup hA), by decide +kernel, _, rfl, ifN (by decide) ?_⟩
    refine ⟨_, rfl, a, _, rfl, .inr (SqT.of hA), _, rfl, b, _, rfl, .inr (SqT.of hB), rfl, _, rfl, ifN (by rw [hl2]; simp) ?_⟩
    refine ⟨_, rfl, b, _, rfl, .inr (SqT.of hB), _, rfl, by omega, by omega, ?_⟩
    refine for_range (lo := 0) (n := ((ys.length : Nat) : Int).toNat) (fun i σ H' => H' = H ∧ ∃ (y : Option V), σ = [some (.ref a), some (.ref b), y]) ⟨rfl, none, rfl⟩ ?_ ?_
    · rintro i σ H' hi ⟨rfl, y, rfl⟩
      have hi1 : i < xs.length := by omega
      have hi2 : i < ys.length := by omega
      have e1 : atI xs (0 + (i : Int)) = some xs[i] := by rw [Int.zero_add]; exact atI_nat (List.getElem?_eq_getElem hi1)
      have e2 : atI ys (0 + (i : Int)) = some ys[i] := by rw [Int.zero_add]; exact atI_nat (List.getElem?_eq_getElem hi2)
      have hE := al.2 i _ _ (List.getElem?_eq_getElem hi1) (List.getElem?_eq_getElem hi2)
      refine ⟨_, rfl, _, rfl, a, _, _, _, rfl, rfl, SqT.of hA, e1, _, rfl, _, rfl, b, _, _, _, rfl, rfl, SqT.of hB, e2, _, _, m, rfl, by omega, hE, _, rfl, ifN (by decide) ⟨rfl, _, rfl⟩⟩
    · rintro σ H' ⟨rfl, y, rfl⟩
      exact q
theorem same_none {k : Nat} : FnOk P w K mg base CX0 k f fd psSame (spSame 0) := by
  have no : ∀ vs H Q E, ¬ spSame 0 vs H Q E := fun vs H Q E h => by
    obtain ⟨u, v, m, _, h1, _⟩ := h
    omega
  exact ⟨fun vs H Q E h => absurd h (no vs H Q E), fun A outer s H args us vs Q E _ _ _ _ h => absurd h (no vs H Q E)⟩
theorem df_same (a : At K mg "_law_same" sSame psSame f fd) (M : Txt mg) : ∀ n : Nat, Df P w K mg base "_law_same" n psSame (spSame n) f fd
  | 0 => a.df same_none
  | n + 1 => a.df (same_step a.fn M (df_same a M n))

/-! ### the law's tally -/
def spLTally : Sp := fun vs H Q _ => ∃ (v : V) (z : Str) (c : Int) (S : List Hold), vs = [v, .str z, .int c] ∧ IsSeats H v S ∧ SeatsOk S ∧ RollOk z ∧ 0 ≤ c ∧
  ∀ (p : Addr) (H' : Hp), Same H H' → H' p = some (.tup (tlV (tlOf S z c))) → Q (.ref p) H'
theorem cntC_none {z : Str} {hs : Hold} {i k : Nat} (h : hs[i]? = some none) : cntC z (hs.take (i + 1)) k = cntC z (hs.take i) k := by
  unfold cntC
  rw [take_fm h]
  show List.countP _ (_ ++ []) = _
  rw [List.append_nil]
theorem cntC_some {z : Str} {hs : Hold} {i k : Nat} {m : Int} (h : hs[i]? = some (some m)) : cntC z (hs.take (i + 1)) k = cntC z (hs.take i) k + (if voteC z m = k then 1 else 0) := by
  unfold cntC
  rw [take_fm h]
  show List.countP _ (_ ++ [m]) = _
  rw [List.countP_append, List.countP_cons, List.countP_nil]
  by_cases e : voteC z m = k
  · simp [e]
  · simp [e]
theorem voteC_mem {z : Str} {m : Int} (h : RollOk z) (h0 : 0 ≤ m) (hl : m < (z.length : Int)) : voteC z m = 89 ∨ voteC z m = 78 ∨ voteC z m = 80 ∨ voteC z m = 45 := by
  have e := voteC_in h0 hl
  obtain ⟨j, _, e2, _⟩ := atI_get e
  exact h.2 _ (List.mem_of_getElem? e2)
theorem occY : Builtin.Str.occurrences ("YNP" : Str) ⟨#[89]⟩ 0 ("YNP" : Str).length 1 = [0] := by decide +kernel
theorem occN : Builtin.Str.occurrences ("YNP" : Str) ⟨#[78]⟩ 0 ("YNP" : Str).length 1 = [1] := by decide +kernel
theorem occP : Builtin.Str.occurrences ("YNP" : Str) ⟨#[80]⟩ 0 ("YNP" : Str).length 1 = [2] := by decide +kernel
theorem dash : (⟨#[45]⟩ : Str) = ("-" : Str) := by decide +kernel
theorem not_dash {k : Nat} (h : k ≠ 45) : (!decide (V.str (⟨#[k]⟩ : Str) = V.str "-")) = true := by
  rw [Bool.not_eq_true', decide_eq_false_iff_not]
  intro e
  have e1 : (⟨#[k]⟩ : Str) = "-" := V.str.inj e
  rw [← dash] at e1
  have e2 : (#[k] : Array Nat) = #[45] := congrArg Str.cps e1
  exact h (by simpa using e2)
/-- the counts so far -/
abbrev cnt3 (z : Str) (hs : Hold) : List V := [.int (cntC z hs 89 : Nat), .int (cntC z hs 78 : Nat), .int (cntC z hs 80 : Nat)]
theorem ok_ltally (F : Fun K "_law_tally" "_law_tally" sLTally f fd) (M : Txt mg) : FnOk P w K mg base CX0 1 f fd ["_law_seats_here", "_law_roll_here", "_law_chamber"] spLTally := by
  refine F.ok scLTally (fun vs H Q E h => ?_) (fun cdv A outer s H vs Q E hr h => ?_)
  · obtain ⟨v, z, c, S, rfl, _⟩ := h
    rfl
  obtain ⟨v, z, c, S, rfl, ⟨a, vs, rfl, hA, hS⟩, ok, hz, h0, q⟩ := h
  refine ⟨_, pss_cons (ps_if (pt_cmpR op_ge (pv 2) (pe_callB call_len_seq rfl M.len b_len (pa_cons (pv 0) pa_nil)) (nomark _)) (pss_one (ps_ret (pe_tup (pa_cons pe_int (pa_cons pe_int (pa_cons pe_int (pa_cons pe_int pa_nil))))))) pss_nil)
    (pss_cons (ps_set (i := 3) scLTally.nd rfl (.inl rfl) (pe_lst (pa_cons pe_int (pa_cons pe_int (pa_cons pe_int pa_nil)))))
    (pss_cons (ps_for PassesOwn.never rfl (pi_tup (pe_ix ix_tup (pv 0) (pv 2) (fun _ _ => rfl))) (pg_name (i := 4) scLTally.nd rfl (.inl rfl))
      (pss_one (ps_if (PW.pt (pw_and (pt_cmpR op_notN (pv 4) pe_non (nomark _)) (pw_and (pt_cmpR op_lt (pv 4) (pe_callB call_len_str rfl M.len b_len (pa_cons (pv 1) pa_nil)) (nomark _)) (pw_and1 (pt_cmpR op_ne (pe_ix ix_str (pv 1) (pv 4) (fun _ _ => rfl)) pe_str (nomark _))))))
        (pss_cons (ps_set (i := 5) scLTally.nd rfl (.inl rfl) (pe_bm PySem.F.plainAttrs_str PySem.F.slot_str_index PySem.F.type_str_index mt_sindex pe_str (pa_cons (pe_ix ix_str (pv 1) (pv 4) (fun _ _ => rfl)) pa_nil)))
        (pss_one (ps_asg (pe_op op_add (pe_ix ix_list (pv 3) (pv 5) (fun _ _ => rfl)) pe_int) (pg_sub (pv 3) (pv 5) set_list)))) pss_nil)))
    (pss_one (ps_ret (pe_tup (pa_cons (pe_callB call_len_seq rfl M.len b_len (pa_cons (pe_ix ix_tup (pv 0) (pv 2) (fun _ _ => rfl)) pa_nil)) (pa_cons (pe_ix ix_list (pv 3) pe_int (fun _ _ => rfl)) (pa_cons (pe_ix ix_list (pv 3) pe_int (fun _ _ => rfl)) (pa_cons (pe_ix ix_list (pv 3) pe_int (fun _ _ => rfl)) pa_nil))))))))), ?_⟩
  refine ⟨_, rfl, _, rfl, a, vs, rfl, .inr (SqT.of hA), c, _, rfl, rfl, _, rfl, ?_⟩
  refine ite2 (fun hc => ?_) (fun hc => ?_)
  · have hc' : (vs.length : Int) ≤ c := of_decide_eq_true hc
    have hl := hS.1
    refine ⟨(by show 4 ≤ sizeLine; decide), fun p hp => q p _ (same_new hp _) ?_⟩
    rw [tlOf_none (List.getElem?_eq_none (by omega))]
    exact upd_same
  have hc' : ¬ (vs.length : Int) ≤ c := of_decide_eq_false (Bool.eq_false_iff.mpr hc)
  have hcl : c.toNat < vs.length := by omega
  have hcs : c.toNat < S.length := by rw [← hS.1]; exact hcl
  obtain ⟨b, eb, hB⟩ := hS.2 c.toNat vs[c.toNat] S[c.toNat] (List.getElem?_eq_getElem hcl) (List.getElem?_eq_getElem hcs)
  have hok := ok.2 S[c.toNat] (List.getElem_mem hcs)
  have hat : atI vs c = some (.ref b) := at_some h0 (by rw [← eb]; exact List.getElem?_eq_getElem hcl)
  have hSc : S[c.toNat]? = some S[c.toNat] := List.getElem?_eq_getElem hcs
  generalize S[c.toNat] = hs at hB hok hSc
  rw [tlOf_some hSc] at q
  refine ⟨(by show 3 ≤ sizeLine; decide), fun L nL => ?_⟩
  have s0 := same_new nL (.lst [V.int 0, .int 0, .int 0])
  refine ⟨_, rfl, _, rfl, a, vs, c, _, rfl, rfl, SqT.of (s0 _ _ hA), hat, b, rfl, ⟨_, SqT.of (s0 _ _ hB)⟩, ?_⟩
  refine for_tup (K := K) (a := b) (xs := hs.map hV) (fun i σ H' => ∃ (y4 y5 : Option V), σ = [some (.ref a), some (.str z), some (.int c), some (.ref L), y4, y5] ∧ Same H H' ∧ H' L = some (.lst (cnt3 z (hs.take i))))
    ⟨none, none, rfl, s0, upd_same⟩ (fun i σ H' _ ⟨_, _, _, sH, _⟩ => SqT.of (sH _ _ hB)) ?_ ?_
  · rintro i x σ H1 hx ⟨y4, y5, rfl, sH, eL⟩
    rw [List.getElem?_map] at hx
    obtain ⟨o, ho, rfl⟩ := Option.map_eq_some_iff.mp hx
    cases o with
    | none =>
      refine ⟨_, rfl, rfl, _, rfl, ifN (by decide) (ifN (by decide) ⟨_, _, rfl, sH, ?_⟩)⟩
      rw [eL]
      unfold cnt3
      rw [cntC_none ho, cntC_none ho, cntC_none ho]
    | some m =>
      have hm := hok.2 m (List.mem_of_getElem? ho)
      have out : ∀ k : Nat, voteC z m ≠ k → cntC z (hs.take (i + 1)) k = cntC z (hs.take i) k := fun k h => by rw [cntC_some ho, if_neg h, Nat.add_zero]
      have inn : ∀ k : Nat, voteC z m = k → cntC z (hs.take (i + 1)) k = cntC z (hs.take i) k + 1 := fun k h => by rw [cntC_some ho, if_pos h]
      refine ⟨_, rfl, rfl, _, rfl, ifP rfl ?_⟩
      refine ⟨_, rfl, _, rfl, z, rfl, str_len12 hz.1, m, _, rfl, rfl, _, rfl, ite2 (fun g => ?_) (fun g => ifN (by decide) ⟨_, _, rfl, sH, ?_⟩)⟩
      · have g' : m < (z.length : Int) := of_decide_eq_true g
        have hv := voteC_in hm.1 g'
        refine ⟨_, rfl, _, rfl, z, m, _, rfl, rfl, str_len12 hz.1, hv, rfl, _, rfl, ?_⟩
        rcases voteC_mem hz hm.1 g' with e | e | e | e
        · rw [e] at hv ⊢
          refine ifP (not_dash (by decide)) ?_
          refine ⟨rfl, _, rfl, _, rfl, z, m, 89, rfl, rfl, str_len12 hz.1, hv, _, _, 0, [], rfl, rfl, occY, ?_⟩
          refine ⟨_, rfl, _, rfl, L, _, _, _, rfl, rfl, SqL.of eL, rfl, _, _, rfl, rfl, _, rfl, _, rfl, L, _, _, 0, rfl, rfl, eL, rfl, _, _, rfl, same_back sH nL _, ?_⟩
          rw [upd_same]
          unfold cnt3
          rw [inn 89 e, out 78 (by omega), out 80 (by omega)]
          rfl
        · rw [e] at hv ⊢
          refine ifP (not_dash (by decide)) ?_
          refine ⟨rfl, _, rfl, _, rfl, z, m, 78, rfl, rfl, str_len12 hz.1, hv, _, _, 1, [], rfl, rfl, occN, ?_⟩
          refine ⟨_, rfl, _, rfl, L, _, _, _, rfl, rfl, SqL.of eL, rfl, _, _, rfl, rfl, _, rfl, _, rfl, L, _, _, 1, rfl, rfl, eL, rfl, _, _, rfl, same_back sH nL _, ?_⟩
          rw [upd_same]
          unfold cnt3
          rw [inn 78 e, out 89 (by omega), out 80 (by omega)]
          rfl
        · rw [e] at hv ⊢
          refine ifP (not_dash (by decide)) ?_
          refine ⟨rfl, _, rfl, _, rfl, z, m, 80, rfl, rfl, str_len12 hz.1, hv, _, _, 2, [], rfl, rfl, occP, ?_⟩
          refine ⟨_, rfl, _, rfl, L, _, _, _, rfl, rfl, SqL.of eL, rfl, _, _, rfl, rfl, _, rfl, _, rfl, L, _, _, 2, rfl, rfl, eL, rfl, _, _, rfl, same_back sH nL _, ?_⟩
          rw [upd_same]
          unfold cnt3
          rw [inn 80 e, out 89 (by omega), out 78 (by omega)]
          rfl
        · rw [e]
          refine ifN (by rw [dash]; simp) ⟨_, _, rfl, sH, ?_⟩
          rw [eL]
          unfold cnt3
          rw [out 89 (by omega), out 78 (by omega), out 80 (by omega)]
      · have e := voteC_out (z := z) (m := m) (of_decide_eq_false (Bool.eq_false_iff.mpr g))
        rw [eL]
        unfold cnt3
        rw [out 89 (by omega), out 78 (by omega), out 80 (by omega)]
  · rintro σ H1 ⟨y4, y5, rfl, sH, eL⟩
    rw [List.length_map, List.take_length] at eL
    refine ⟨_, rfl, _, rfl, a, vs, c, _, rfl, rfl, SqT.of (sH _ _ hA), hat, b, _, rfl, .inr (SqT.of (sH _ _ hB)), ?_⟩
    refine ⟨_, rfl, L, _, 0, _, rfl, rfl, SqL.of eL, rfl, _, rfl, L, _, 1, _, rfl, rfl, SqL.of eL, rfl, _, rfl, L, _, 2, _, rfl, rfl, SqL.of eL, rfl, (by show 4 ≤ sizeLine; decide), fun p hp => q p _ (sH.trans (same_new hp _)) ?_⟩
    rw [upd_same, List.length_map]
    rfl
end
end Gz

namespace Gz
open PySem PySem.Spec PyProof.Rows L2

abbrev sLPass : Stmt := topS 25
theorem scLPass : FnScope ["_law_rule_here", "_law_seats_here", "_law_roll_here", "_law_limits_here", "_law_leader_here", "_law_first", "_law_second"] ["_law_rule_here", "_law_seats_here", "_law_roll_here", "_law_limits_here", "_law_leader_here"] (defScope sLPass) := ⟨rfl, rfl, rfl, by decide +kernel, rfl, by decide +kernel, by decide +kernel⟩
section
variable {P : Program} {w : World} {K : PySem.W.Frag} {mg : Str → Option Value} {base : Heap} {f fw : Addr} {fd fdw : FuncData}
theorem ok_limit (F : Fun K "_law_limit" "_law_limit" sLimit f fd) (M : Txt mg) : FnOk P w K mg base CX0 1 f fd ["_law_threshold_here", "_law_limits_here"] spThr := by
  refine F.ok scLimit (fun vs H Q E h => ?_) (fun cdv A outer s H vs Q E hr h => ?_)
  · obtain ⟨v, u, t, L, rfl, _⟩ := h
    rfl
  obtain ⟨v, u, t, L, rfl, ht, ok, ⟨b, rfl, hB⟩, q⟩ := h
  refine ⟨_, pss_cons (ps_if (pt_val (p_isi M.isi M.tuple b_tuple (pv 0)))
      (pss_cons (ps_if (pt_cmpR op_lt (pe_ix ix_tup (pv 0) pe_int (fun _ _ => rfl)) (pe_callB call_len_seq rfl M.len b_len (pa_cons (pv 1) pa_nil)) (nomark _)) (pss_one (ps_ret (pe_ix ix_tup (pv 1) (pe_ix ix_tup (pv 0) pe_int (fun _ _ => rfl)) (fun _ _ => rfl)))) pss_nil)
      (pss_one (ps_ret pe_int))) pss_nil)
    (pss_one (ps_ret (pv 0))), ?_⟩
  cases t with
  | num n =>
    cases (show v = .int n from ht)
    exact ⟨_, rfl, _, _, false, rfl, .base (.int n), by decide +kernel, _, rfl, ifN (by decide) ⟨_, rfl, q⟩⟩
  | par i =>
    obtain ⟨a, rfl, hA⟩ := ht
    have h0 : 0 ≤ i := ok.1
    refine ⟨_, rfl, _, _, true, rfl, .base (.tup hA), by decide +kernel, _, rfl, ifP rfl ?_⟩
    refine ⟨_, rfl, a, _, 1, .int i, rfl, rfl, SqT.of hA, rfl, _, rfl, b, _, rfl, .inr (SqT.of hB), i, _, rfl, rfl, _, rfl, ?_⟩
    refine ite2 (fun c => ?_) (fun c => ?_)
    · exact ⟨_, rfl, _, rfl, a, _, 1, .int i, rfl, rfl, SqT.of hA, rfl, b, _, i, _, rfl, rfl, SqT.of hB, parOf_in h0 (of_decide_eq_true c), q⟩
    · have e := parOf_out (L := L) (i := i) (of_decide_eq_false (Bool.eq_false_iff.mpr c))
      have q2 : Q (.int (parOf L i)) H := q
      rw [e] at q2
      exact q2
theorem ok_byc {fl : Addr} {fdl : FuncData} (F : Fun K "_law_by_counts" "_law_by_counts" sByC f fd) (GL : Df P w K mg base "_law_limit" 1 ["_law_threshold_here", "_law_limits_here"] spThr fl fdl) : FnOk P w K mg base CX0 2 f fd ["_law_rule_here", "_law_counts", "_law_limits_here"] spBy := by
  refine F.ok scByC (fun vs H Q E h => ?_) (fun cdv A outer s H vs Q E hr h => ?_)
  · obtain ⟨r, v, u, a, t, L, rfl, _⟩ := h
    rfl
  obtain ⟨r, v, u, a, t, L, rfl, hR, ok, sm, hA, tk, hL, q⟩ := h
  refine ⟨_, pss_cons (ps_set (i := 3) scByC.nd rfl (.inl rfl) (pe_op op_add (pe_op op_add (pe_ix ix_tup (pv 1) pe_int (fun _ _ => rfl)) (pe_ix ix_tup (pv 1) pe_int (fun _ _ => rfl))) (pe_ix ix_tup (pv 1) pe_int (fun _ _ => rfl))))
    (pss_cons (ps_if (pt_cmpR op_eq (pe_ix ix_tup (pv 0) pe_int (fun _ _ => rfl)) pe_str (nomark _)) (pss_one (ps_ret (pe_cmpR op_ge (pe_ix ix_tup (pv 1) pe_int (fun _ _ => rfl)) (pd GL hr (pa_cons (pe_ix ix_tup (pv 0) pe_int (fun _ _ => rfl)) (pa_cons (pv 2) pa_nil))) (nomark _)))) pss_nil)
    (pss_cons (ps_if (pt_cmpR op_eq (pe_ix ix_tup (pv 0) pe_int (fun _ _ => rfl)) pe_str (nomark _)) (pss_one (ps_ret (pe_cmpR op_ge (pv 3) (pd GL hr (pa_cons (pe_ix ix_tup (pv 0) pe_int (fun _ _ => rfl)) (pa_cons (pv 2) pa_nil))) (nomark _)))) pss_nil)
    (pss_cons (ps_set (i := 4) scByC.nd rfl (.inl rfl) (pe_ix ix_tup (pv 1) pe_int (fun _ _ => rfl)))
    (pss_cons (ps_if (pt_cmpR op_eq (pe_ix ix_tup (pv 0) (pe_un un_neg pe_int) (fun _ _ => rfl)) pe_str (nomark _)) (pss_one (ps_set (i := 4) scByC.nd rfl (.inl rfl) (pv 3))) pss_nil)
    (pss_cons (ps_if (pt_cmpR op_eq (pe_ix ix_tup (pv 0) (pe_un un_neg pe_int) (fun _ _ => rfl)) pe_str (nomark _)) (pss_one (ps_set (i := 4) scByC.nd rfl (.inl rfl) (pe_op op_add (pe_ix ix_tup (pv 1) pe_int (fun _ _ => rfl)) (pe_ix ix_tup (pv 1) pe_int (fun _ _ => rfl))))) pss_nil)
    (pss_cons (ps_if (pt_cmpR op_eq (pe_ix ix_tup (pv 0) pe_int (fun _ _ => rfl)) pe_str (nomark _)) (pss_one (ps_ret (pe_cmpR op_gt (pe_op op_mul pe_int (pe_ix ix_tup (pv 1) pe_int (fun _ _ => rfl))) (pv 4) (nomark _)))) pss_nil)
    (pss_one (ps_ret (pe_cmpR op_ge (pe_op op_mul (pe_ix ix_tup (pv 0) pe_int (fun _ _ => rfl)) (pe_ix ix_tup (pv 1) pe_int (fun _ _ => rfl))) (pe_op op_mul (pe_ix ix_tup (pv 0) pe_int (fun _ _ => rfl)) (pv 4)) (nomark _)))))))))), ?_⟩
  refine ⟨_, rfl, a, _, 1, _, rfl, rfl, SqT.of hA, rfl, _, rfl, a, _, 2, _, rfl, rfl, SqT.of hA, rfl, _, _, rfl, rfl, _, rfl, a, _, 3, _, rfl, rfl, SqT.of hA, rfl, _, _, rfl, rfl, ?_⟩
  have h1 := tk.2.1
  cases r with
  | yeas c h =>
    obtain ⟨b, x, rfl, hB, hX⟩ := hR
    refine ⟨_, rfl, b, _, 0, _, rfl, rfl, SqT.of hB, rfl, rfl, _, rfl, ifP (by decide +kernel) ?_⟩
    exact ⟨_, rfl, a, _, 1, _, rfl, rfl, SqT.of hA, rfl, _, rfl, b, _, 2, x, rfl, rfl, SqT.of hB, rfl, _, rfl, x, _, h, L, rfl, hX, ok.2, hL, _, _, rfl, rfl, q⟩
  | quorum c h =>
    obtain ⟨b, x, rfl, hB, hX⟩ := hR
    refine ⟨_, rfl, b, _, 0, _, rfl, rfl, SqT.of hB, rfl, rfl, _, rfl, ifN (by decide +kernel) ?_⟩
    refine ⟨_, rfl, b, _, 0, _, rfl, rfl, SqT.of hB, rfl, rfl, _, rfl, ifP (by decide +kernel) ?_⟩
    exact ⟨_, rfl, _, rfl, b, _, 2, x, rfl, rfl, SqT.of hB, rfl, _, rfl, x, _, h, L, rfl, hX, ok.2, hL, _, _, rfl, rfl, q⟩
  | majority c d =>
    obtain ⟨b, rfl, hB⟩ := hR
    refine ⟨_, rfl, b, _, 0, _, rfl, rfl, SqT.of hB, rfl, rfl, _, rfl, ifN (by decide +kernel) ?_⟩
    refine ⟨_, rfl, b, _, 0, _, rfl, rfl, SqT.of hB, rfl, rfl, _, rfl, ifN (by decide +kernel) ?_⟩
    refine ⟨_, rfl, a, _, 0, _, rfl, rfl, SqT.of hA, rfl, ?_⟩
    refine ⟨_, rfl, 1, rfl, b, _, -1, _, rfl, rfl, SqT.of hB, rfl, rfl, _, rfl, ?_⟩
    cases d with
    | seats =>
      refine ifN (by decide +kernel) ⟨_, rfl, 1, rfl, b, _, -1, _, rfl, rfl, SqT.of hB, rfl, rfl, _, rfl, ifN (by decide +kernel) ?_⟩
      refine ⟨_, rfl, b, _, 0, _, rfl, rfl, SqT.of hB, rfl, rfl, _, rfl, ifP (by decide +kernel) ?_⟩
      exact ⟨_, rfl, a, _, 1, _, rfl, rfl, SqT.of hA, rfl, _, _, rfl, rfl, .inl ⟨by decide, by decide⟩, _, rfl, _, _, rfl, rfl, q⟩
    | attending =>
      refine ifP (by decide +kernel) ⟨_, rfl, _, rfl, 1, rfl, b, _, -1, _, rfl, rfl, SqT.of hB, rfl, rfl, _, rfl, ifN (by decide +kernel) ?_⟩
      refine ⟨_, rfl, b, _, 0, _, rfl, rfl, SqT.of hB, rfl, rfl, _, rfl, ifP (by decide +kernel) ?_⟩
      exact ⟨_, rfl, a, _, 1, _, rfl, rfl, SqT.of hA, rfl, _, _, rfl, rfl, .inl ⟨by decide, by decide⟩, _, rfl, _, _, rfl, rfl, q⟩
    | voting =>
      refine ifN (by decide +kernel) ⟨_, rfl, 1, rfl, b, _, -1, _, rfl, rfl, SqT.of hB, rfl, rfl, _, rfl, ifP (by decide +kernel) ?_⟩
      refine ⟨_, rfl, a, _, 1, _, rfl, rfl, SqT.of hA, rfl, _, rfl, a, _, 2, _, rfl, rfl, SqT.of hA, rfl, _, _, rfl, rfl, ?_⟩
      refine ⟨_, rfl, b, _, 0, _, rfl, rfl, SqT.of hB, rfl, rfl, _, rfl, ifP (by decide +kernel) ?_⟩
      exact ⟨_, rfl, a, _, 1, _, rfl, rfl, SqT.of hA, rfl, _, _, rfl, rfl, .inl ⟨by decide, by decide⟩, _, rfl, _, _, rfl, rfl, q⟩
  | fraction c p qq d =>
    obtain ⟨b, rfl, hB⟩ := hR
    have h2 := Den.val_ok tk d
    refine ⟨_, rfl, b, _, 0, _, rfl, rfl, SqT.of hB, rfl, rfl, _, rfl, ifN (by decide +kernel) ?_⟩
    refine ⟨_, rfl, b, _, 0, _, rfl, rfl, SqT.of hB, rfl, rfl, _, rfl, ifN (by decide +kernel) ?_⟩
    refine ⟨_, rfl, a, _, 0, _, rfl, rfl, SqT.of hA, rfl, ?_⟩
    refine ⟨_, rfl, 1, rfl, b, _, -1, _, rfl, rfl, SqT.of hB, rfl, rfl, _, rfl, ?_⟩
    cases d with
    | seats =>
      refine ifN (by decide +kernel) ⟨_, rfl, 1, rfl, b, _, -1, _, rfl, rfl, SqT.of hB, rfl, rfl, _, rfl, ifN (by decide +kernel) ?_⟩
      refine ⟨_, rfl, b, _, 0, _, rfl, rfl, SqT.of hB, rfl, rfl, _, rfl, ifN (by decide +kernel) ?_⟩
      exact ⟨_, rfl, b, _, 3, _, rfl, rfl, SqT.of hB, rfl, _, rfl, a, _, 1, _, rfl, rfl, SqT.of hA, rfl, _, _, rfl, rfl, cmul_small h1.1 (by omega), _, rfl, b, _, 2, _, rfl, rfl, SqT.of hB, rfl, _, rfl, _, _, rfl, rfl, cmul_small h2.1 (Int.le_trans h2.2 (by decide)), _, _, rfl, rfl, q⟩
    | attending =>
      refine ifP (by decide +kernel) ⟨_, rfl, _, rfl, 1, rfl, b, _, -1, _, rfl, rfl, SqT.of hB, rfl, rfl, _, rfl, ifN (by decide +kernel) ?_⟩
      refine ⟨_, rfl, b, _, 0, _, rfl, rfl, SqT.of hB, rfl, rfl, _, rfl, ifN (by decide +kernel) ?_⟩
      exact ⟨_, rfl, b, _, 3, _, rfl, rfl, SqT.of hB, rfl, _, rfl, a, _, 1, _, rfl, rfl, SqT.of hA, rfl, _, _, rfl, rfl, cmul_small h1.1 (by omega), _, rfl, b, _, 2, _, rfl, rfl, SqT.of hB, rfl, _, rfl, _, _, rfl, rfl, cmul_small h2.1 (Int.le_trans h2.2 (by decide)), _, _, rfl, rfl, q⟩
    | voting =>
      refine ifN (by decide +kernel) ⟨_, rfl, 1, rfl, b, _, -1, _, rfl, rfl, SqT.of hB, rfl, rfl, _, rfl, ifP (by decide +kernel) ?_⟩
      refine ⟨_, rfl, a, _, 1, _, rfl, rfl, SqT.of hA, rfl, _, rfl, a, _, 2, _, rfl, rfl, SqT.of hA, rfl, _, _, rfl, rfl, ?_⟩
      refine ⟨_, rfl, b, _, 0, _, rfl, rfl, SqT.of hB, rfl, rfl, _, rfl, ifN (by decide +kernel) ?_⟩
      exact ⟨_, rfl, b, _, 3, _, rfl, rfl, SqT.of hB, rfl, _, rfl, a, _, 1, _, rfl, rfl, SqT.of hA, rfl, _, _, rfl, rfl, cmul_small h1.1 (by omega), _, rfl, b, _, 2, _, rfl, rfl, SqT.of hB, rfl, _, rfl, _, _, rfl, rfl, cmul_small h2.1 (Int.le_trans h2.2 (by decide)), _, _, rfl, rfl, q⟩
  | premier => exact sm.elim
  | all x y => exact sm.elim
  | any x y => exact sm.elim

/-! ### the law's passes -/
theorem simple_noeq {r : Rule} (sm : r.simple) : (¬ decide (V.str r.kind = V.str "all") = true) ∧ ¬ decide (V.str r.kind = V.str "any") = true := by
  cases r with
  | yeas c u => exact ⟨(by decide +kernel : ¬ decide (V.str "yeas" = V.str "all") = true), (by decide +kernel : ¬ decide (V.str "yeas" = V.str "any") = true)⟩
  | quorum c u => exact ⟨(by decide +kernel : ¬ decide (V.str "quorum" = V.str "all") = true), (by decide +kernel : ¬ decide (V.str "quorum" = V.str "any") = true)⟩
  | majority c d => exact ⟨(by decide +kernel : ¬ decide (V.str "majority" = V.str "all") = true), (by decide +kernel : ¬ decide (V.str "majority" = V.str "any") = true)⟩
  | fraction c p q d => exact ⟨(by decide +kernel : ¬ decide (V.str "fraction" = V.str "all") = true), (by decide +kernel : ¬ decide (V.str "fraction" = V.str "any") = true)⟩
  | premier => exact sm.elim
  | all x y => exact sm.elim
  | any x y => exact sm.elim
def spLPass (n : Nat) : Sp := fun vs H Q _ => ∃ (r : Rule) (v vS vL : V) (S : List Hold) (z : Str) (L : List Int) (m : Option Int), vs = [v, vS, .str z, vL, hV m] ∧ IsRule H r v ∧ r.Ok ∧ r.depth < n ∧ IsSeats H vS S ∧ SeatsOk S ∧ RollOk z ∧ IsInts H vL L ∧ PremOk m ∧
  ∀ H', Same H H' → Q (.bl (r.pass (tlOf S z) (parOf L) (premB z m))) H'
abbrev psLPass : List Str := ["_law_rule_here", "_law_seats_here", "_law_roll_here", "_law_limits_here", "_law_leader_here"]
theorem lpass_step {n : Nat} {fb ft : Addr} {fdb fdt : FuncData} (F : Fun K "_law_passes" "_law_passes" sLPass f fd) (M : Txt mg) (GB : Df P w K mg base "_law_by_counts" 2 ["_law_rule_here", "_law_counts", "_law_limits_here"] spBy fb fdb) (GT : Df P w K mg base "_law_tally" 1 ["_law_seats_here", "_law_roll_here", "_law_chamber"] spLTally ft fdt)
    (G : Df P w K mg base "_law_passes" (n + 2) psLPass (spLPass n) f fd) : FnOk P w K mg base CX0 (n + 3) f fd psLPass (spLPass (n + 1)) := by
  refine F.ok scLPass (fun vs H Q E h => ?_) (fun cdv A outer s H vs Q E hr h => ?_)
  · obtain ⟨r, v, vS, vL, S, z, L, m, rfl, _⟩ := h
    rfl
  obtain ⟨r, v, vS, vL, S, z, L, m, rfl, hR, ok, dep, hS, okS, hz, hL, pm, q⟩ := h
  have hr1 : Room 1 _ := hr.mono (by omega)
  have hr2 : Room 2 _ := hr.mono (by omega)
  refine ⟨_, pss_cons (ps_if (pt_cmpR op_eq (pe_ix ix_tup (pv 0) pe_int (fun _ _ => rfl)) pe_str (nomark _)) (pss_one (ps_ret (pe_and (pe_cmp (pc_notN (pv 4)) rfl) (pe_and (pe_cmpR op_lt (pv 4) (pe_callB call_len_str rfl M.len b_len (pa_cons (pv 2) pa_nil)) (nomark _)) (pe_one (pe_cmpR op_eq (pe_ix ix_str (pv 2) (pv 4) (fun _ _ => rfl)) pe_str (nomark _))))))) pss_nil)
    (pss_cons (ps_if (PW.pt (pw_or (pt_cmpR op_eq (pe_ix ix_tup (pv 0) pe_int (fun _ _ => rfl)) pe_str (nomark _)) (pw_or1 (pt_cmpR op_eq (pe_ix ix_tup (pv 0) pe_int (fun _ _ => rfl)) pe_str (nomark _)))))
      (pss_cons (ps_set (i := 5) scLPass.nd rfl (.inl rfl) (pd G hr (pa_cons (pe_ix ix_tup (pv 0) pe_int (fun _ _ => rfl)) (pa_cons (pv 1) (pa_cons (pv 2) (pa_cons (pv 3) (pa_cons (pv 4) pa_nil)))))))
      (pss_cons (ps_set (i := 6) scLPass.nd rfl (.inl rfl) (pd G hr (pa_cons (pe_ix ix_tup (pv 0) pe_int (fun _ _ => rfl)) (pa_cons (pv 1) (pa_cons (pv 2) (pa_cons (pv 3) (pa_cons (pv 4) pa_nil)))))))
      (pss_cons (ps_if (pt_cmpR op_eq (pe_ix ix_tup (pv 0) pe_int (fun _ _ => rfl)) pe_str (nomark _)) (pss_one (ps_ret (pe_and (pv 5) (pe_one (pv 6))))) pss_nil)
      (pss_one (ps_ret (pe_or (pv 5) (pe_one (pv 6)))))))) pss_nil)
    (pss_one (ps_ret (pd GB hr2 (pa_cons (pv 0) (pa_cons (pd GT hr1 (pa_cons (pv 1) (pa_cons (pv 2) (pa_cons (pe_ix ix_tup (pv 0) pe_int (fun _ _ => rfl)) pa_nil)))) (pa_cons (pv 3) pa_nil))))))), ?_⟩
  rcases rule_cases hR ok with sm | rfl | ⟨x, y, a, v1, v2, t⟩
  · obtain ⟨b, c, rest, rfl, hB, hc, h0⟩ := simple_head sm ok hR
    refine ⟨_, rfl, b, _, 0, _, rfl, rfl, SqT.of hB, at0, rfl, _, rfl, ifN (simple_noprem sm) ?_⟩
    refine ⟨_, rfl, b, _, 0, _, rfl, rfl, SqT.of hB, at0, rfl, _, rfl, ifN (simple_noeq sm).1 ⟨_, rfl, b, _, 0, _, rfl, rfl, SqT.of hB, at0, rfl, _, rfl, ifN (simple_noeq sm).2 ?_⟩⟩
    refine ⟨_, rfl, _, rfl, _, rfl, _, rfl, b, _, 1, _, rfl, rfl, SqT.of hB, at1, vS, z, c, S, rfl, hS, okS, hz, h0, fun p2 H2 s2 e2 => ?_⟩
    have t2 := Tups.same s2
    refine ⟨_, rfl, r, _, vL, p2, tlOf S z c, L, rfl, hR.up t2, ok, sm, e2, tl_ok okS, hL.up t2, ?_⟩
    have g := q H2 s2
    rw [simple_pass sm hc] at g
    exact g
  · obtain ⟨b, rfl, hB⟩ := hR
    refine ⟨_, rfl, b, _, 0, _, rfl, rfl, SqT.of hB, rfl, rfl, _, rfl, ifP (by decide +kernel) ?_⟩
    have g := q H (Same.refl H)
    cases m with
    | none => exact ⟨_, rfl, _, rfl, ifN (by decide) g⟩
    | some k =>
      refine ⟨_, rfl, _, rfl, ifP rfl ⟨_, rfl, _, rfl, z, rfl, str_len12 hz.1, k, _, rfl, rfl, _, rfl, ?_⟩⟩
      refine ite2 (fun c => ?_) (fun c => ?_)
      · refine ⟨_, rfl, _, rfl, z, k, _, rfl, rfl, str_len12 hz.1, voteC_in (pm k rfl).1 (of_decide_eq_true c), rfl, ?_⟩
        have e : V.bl (decide (V.str (⟨#[voteC z k]⟩ : Str) = V.str ⟨#[89]⟩)) = V.bl (voteC z k == 89) := congrArg V.bl vote_is
        exact e ▸ g
      · have e := voteC_out (z := z) (m := k) (of_decide_eq_false (Bool.eq_false_iff.mpr c))
        have g2 : Q (.bl (voteC z k == 89)) H := g
        rw [e] at g2
        exact g2
  · obtain rfl := t.vr
    have hA := t.at_
    have dd1 := t.d1
    have dd2 := t.d2
    refine ⟨_, rfl, a, _, 0, _, rfl, rfl, SqT.of hA, rfl, rfl, _, rfl, ifN t.noprem ?_⟩
    rcases t.eq with rfl | rfl
    · refine ⟨_, rfl, a, _, 0, _, rfl, rfl, SqT.of hA, rfl, rfl, _, rfl, ifP (by show decide (V.str "all" = V.str "all") = true; decide +kernel) (ifP rfl ?_)⟩
      refine ⟨_, rfl, a, _, 1, v1, rfl, rfl, SqT.of hA, rfl, _, rfl, _, rfl, _, rfl, _, rfl, x, v1, vS, vL, S, z, L, m, rfl, t.h1, t.ok1, by omega, hS, okS, hz, hL, pm, fun H1 s1 => ?_⟩
      have t1 := Tups.same s1
      refine ⟨_, rfl, a, _, 2, v2, rfl, rfl, SqT.of (s1 _ _ hA), rfl, _, rfl, _, rfl, _, rfl, _, rfl, y, v2, vS, vL, S, z, L, m, rfl, t.h2.up t1, t.ok2, by omega, hS.up t1, okS, hz, hL.up t1, pm, fun H2 s2 => ?_⟩
      have s12 := s1.trans s2
      have g := q H2 s12
      refine ⟨_, rfl, a, _, 0, _, rfl, rfl, SqT.of (s12 _ _ hA), rfl, rfl, _, rfl, ifP (by show decide (V.str "all" = V.str "all") = true; decide +kernel) ?_⟩
      have g2 : Q (.bl (x.pass (tlOf S z) (parOf L) (premB z m) && y.pass (tlOf S z) (parOf L) (premB z m))) H2 := g
      refine ⟨_, rfl, _, rfl, ?_⟩
      cases e : x.pass (tlOf S z) (parOf L) (premB z m) with
      | true =>
        rw [e, Bool.true_and] at g2
        exact ifP rfl ⟨_, rfl, g2⟩
      | false =>
        rw [e, Bool.false_and] at g2
        exact ifN (by decide) g2
    · refine ⟨_, rfl, a, _, 0, _, rfl, rfl, SqT.of hA, rfl, rfl, _, rfl, ifN (by show ¬ decide (V.str "any" = V.str "all") = true; decide +kernel) ⟨_, rfl, a, _, 0, _, rfl, rfl, SqT.of hA, rfl, rfl, _, rfl, ifP (by show decide (V.str "any" = V.str "any") = true; decide +kernel) ?_⟩⟩
      refine ⟨_, rfl, a, _, 1, v1, rfl, rfl, SqT.of hA, rfl, _, rfl, _, rfl, _, rfl, _, rfl, x, v1, vS, vL, S, z, L, m, rfl, t.h1, t.ok1, by omega, hS, okS, hz, hL, pm, fun H1 s1 => ?_⟩
      have t1 := Tups.same s1
      refine ⟨_, rfl, a, _, 2, v2, rfl, rfl, SqT.of (s1 _ _ hA), rfl, _, rfl, _, rfl, _, rfl, _, rfl, y, v2, vS, vL, S, z, L, m, rfl, t.h2.up t1, t.ok2, by omega, hS.up t1, okS, hz, hL.up t1, pm, fun H2 s2 => ?_⟩
      have s12 := s1.trans s2
      have g := q H2 s12
      refine ⟨_, rfl, a, _, 0, _, rfl, rfl, SqT.of (s12 _ _ hA), rfl, rfl, _, rfl, ifN (by show ¬ decide (V.str "any" = V.str "all") = true; decide +kernel) ?_⟩
      have g2 : Q (.bl (x.pass (tlOf S z) (parOf L) (premB z m) || y.pass (tlOf S z) (parOf L) (premB z m))) H2 := g
      refine ⟨_, rfl, _, rfl, ?_⟩
      cases e : x.pass (tlOf S z) (parOf L) (premB z m) with
      | true =>
        rw [e, Bool.true_or] at g2
        exact ifP rfl g2
      | false =>
        rw [e, Bool.false_or] at g2
        exact ifN (by decide) ⟨_, rfl, g2⟩
theorem lpass_none {k : Nat} : FnOk P w K mg base CX0 k f fd psLPass (spLPass 0) := by
  have no : ∀ vs H Q E, ¬ spLPass 0 vs H Q E := fun vs H Q E h => by
    obtain ⟨r, v, vS, vL, S, z, L, m, _, _, _, dep, _⟩ := h
    omega
  exact ⟨fun vs H Q E h => absurd h (no vs H Q E), fun A outer s H args us vs Q E _ _ _ _ h => absurd h (no vs H Q E)⟩
theorem df_lpass {fb ft : Addr} {fdb fdt : FuncData} (a : At K mg "_law_passes" sLPass psLPass f fd) (M : Txt mg) (GB : Df P w K mg base "_law_by_counts" 2 ["_law_rule_here", "_law_counts", "_law_limits_here"] spBy fb fdb) (GT : Df P w K mg base "_law_tally" 1 ["_law_seats_here", "_law_roll_here", "_law_chamber"] spLTally ft fdt) :
    ∀ n : Nat, Df P w K mg base "_law_passes" (n + 2) psLPass (spLPass n) f fd
  | 0 => a.df lpass_none
  | n + 1 => a.df (lpass_step a.fn M GB GT (df_lpass a M GB GT n))
end
end Gz

namespace Gz
open PySem PySem.Spec PyProof.Rows L2

abbrev sLeaves : Stmt := topS 26
abbrev sChs : Stmt := topS 27
abbrev sNos : Stmt := topS 28
abbrev sOther : Stmt := topS 29
theorem scLeaves : FnScope ["_law_rule_here"] ["_law_rule_here"] (defScope sLeaves) := ⟨rfl, rfl, rfl, by decide +kernel, rfl, by decide +kernel, by decide +kernel⟩
theorem scChs : FnScope ["_law_rule_here", "_law_leaf"] ["_law_rule_here"] (defScope sChs) := ⟨rfl, rfl, rfl, by decide +kernel, rfl, by decide +kernel, by decide +kernel⟩
theorem scNos : FnScope ["_law_rule_here", "_law_numbers", "_law_leaf"] ["_law_rule_here"] (defScope sNos) := ⟨rfl, rfl, rfl, by decide +kernel, rfl, by decide +kernel, by decide +kernel⟩
theorem scOther : FnScope ["_law_tape_here", "_law_limits_here", "_law_numbers", "_law_many", "_law_number", "_law_other", "_law_k", "_law_value"] ["_law_tape_here", "_law_limits_here", "_law_numbers"] (defScope sOther) := ⟨rfl, rfl, rfl, by decide +kernel, rfl, by decide +kernel, by decide +kernel⟩
theorem simple_leaves {r : Rule} (sm : r.simple) : r.leaves = [r] := by
  cases r with
  | yeas c u => rfl
  | quorum c u => rfl
  | majority c d => rfl
  | fraction c p q d => rfl
  | premier => exact sm.elim
  | all x y => exact sm.elim
  | any x y => exact sm.elim
theorem leaves_ok : ∀ r : Rule, r.Ok → ∀ x ∈ r.leaves, x.Ok
  | .all a b => fun ok x h => by
    rcases List.mem_append.mp h with h | h
    · exact leaves_ok a ok.1 x h
    · exact leaves_ok b ok.2 x h
  | .any a b => fun ok x h => by
    rcases List.mem_append.mp h with h | h
    · exact leaves_ok a ok.1 x h
    · exact leaves_ok b ok.2 x h
  | .yeas _ _ => fun ok x h => by rw [List.mem_singleton.mp h]; exact ok
  | .quorum _ _ => fun ok x h => by rw [List.mem_singleton.mp h]; exact ok
  | .majority _ _ => fun ok x h => by rw [List.mem_singleton.mp h]; exact ok
  | .fraction _ _ _ _ => fun ok x h => by rw [List.mem_singleton.mp h]; exact ok
  | .premier => fun ok x h => by rw [List.mem_singleton.mp h]; exact ok
theorem flat_cases {r : Rule} (h : r.flat) : r.simple ∨ r = .premier := by
  cases r with
  | yeas c u => exact .inl trivial
  | quorum c u => exact .inl trivial
  | majority c d => exact .inl trivial
  | fraction c p q d => exact .inl trivial
  | premier => exact .inr rfl
  | all x y => exact h.elim
  | any x y => exact h.elim
def spLeaves (n : Nat) : Sp := fun vs H Q _ => ∃ (r : Rule) (v : V), vs = [v] ∧ IsRule H r v ∧ r.Ok ∧ r.depth < n ∧ r.depth ≤ 3 ∧
  ∀ (p : Addr) (H' : Hp) (ws : List V), Same H H' → H p = none → H' p = some (.lst ws) → AllP (fun e r' => IsRule H' r' e) ws r.leaves → Q (.ref p) H'
section
variable {P : Program} {w : World} {K : PySem.W.Frag} {mg : Str → Option Value} {base : Heap} {f fw : Addr} {fd fdw : FuncData}
theorem leaves_step {n : Nat} (F : Fun K "_law_leaves" "_law_leaves" sLeaves f fd) (G : Df P w K mg base "_law_leaves" n ["_law_rule_here"] (spLeaves n) f fd) : FnOk P w K mg base CX0 (n + 1) f fd ["_law_rule_here"] (spLeaves (n + 1)) := by
  refine F.ok scLeaves (fun vs H Q E h => ?_) (fun cdv A outer s H vs Q E hr h => ?_)
  · obtain ⟨r, v, rfl, _⟩ := h
    rfl
  obtain ⟨r, v, rfl, hR, ok, dep, d3, q⟩ := h
  refine ⟨_, pss_cons (ps_if (PW.pt (pw_or (pt_cmpR op_eq (pe_ix ix_tup (pv 0) pe_int (fun _ _ => rfl)) pe_str (nomark _)) (pw_or1 (pt_cmpR op_eq (pe_ix ix_tup (pv 0) pe_int (fun _ _ => rfl)) pe_str (nomark _)))))
      (pss_one (ps_ret (pe_op op_cat (pd G hr (pa_cons (pe_ix ix_tup (pv 0) pe_int (fun _ _ => rfl)) pa_nil)) (pd G hr (pa_cons (pe_ix ix_tup (pv 0) pe_int (fun _ _ => rfl)) pa_nil))))) pss_nil)
    (pss_one (ps_ret (pe_lst (pa_cons (pv 0) pa_nil)))), ?_⟩
  rcases rule_cases hR ok with sm | rfl | ⟨x, y, a, v1, v2, t⟩
  · obtain ⟨b, c, rest, rfl, hB, hc, h0⟩ := simple_head sm ok hR
    refine ⟨_, rfl, b, _, 0, _, rfl, rfl, SqT.of hB, at0, rfl, _, rfl, ifN (simple_noeq sm).1 ⟨_, rfl, b, _, 0, _, rfl, rfl, SqT.of hB, at0, rfl, _, rfl, ifN (simple_noeq sm).2 ?_⟩⟩
    refine ⟨_, rfl, (by show 1 ≤ sizeLine; decide), fun p2 hp2 => q p2 _ _ (same_new hp2 _) hp2 upd_same ?_⟩
    rw [simple_leaves sm]
    exact AllP.cons (hR.up (Tups.same (same_new hp2 _))) AllP.nil
  · have hR0 := hR
    obtain ⟨b, rfl, hB⟩ := hR0
    refine ⟨_, rfl, b, _, 0, _, rfl, rfl, SqT.of hB, rfl, rfl, _, rfl, ifN (by decide +kernel) ⟨_, rfl, b, _, 0, _, rfl, rfl, SqT.of hB, rfl, rfl, _, rfl, ifN (by decide +kernel) ?_⟩⟩
    refine ⟨_, rfl, (by show 1 ≤ sizeLine; decide), fun p2 hp2 => q p2 _ _ (same_new hp2 _) hp2 upd_same ?_⟩
    exact AllP.cons (hR.up (Tups.same (same_new hp2 _))) AllP.nil
  · obtain rfl := t.vr
    have hA := t.at_
    have dd1 := t.d1
    have dd2 := t.d2
    have l1 := leaves_len x
    have l2 := leaves_len y
    have l3 := pow_depth (r := x) (n := 3) (by omega)
    have l4 := pow_depth (r := y) (n := 3) (by omega)
    have fin : spLeaves n [v1] H (fun x1 H1 => spLeaves n [v2] H1 (fun y1 H2 => rCat x1 y1 H2 Q) E0) E0 := by
      refine ⟨x, v1, rfl, t.h1, t.ok1, by omega, by omega, fun p1 H1 w1 s2 n1 e1 a1 => ?_⟩
      refine ⟨y, v2, rfl, t.h2.up (Tups.same s2), t.ok2, by omega, by omega, fun p2 H2 w2 s3 n2 e2 a2 => ?_⟩
      have k1 := a1.1
      have k2 := a2.1
      refine ⟨p1, p2, w1, w2, rfl, rfl, s3 _ _ e1, e2, small (by omega), fun p3 hp3 => ?_⟩
      have s4 : Same H2 (upd H2 p3 (.lst (w1 ++ w2))) := same_new hp3 _
      refine q p3 _ _ (s2.trans (s3.trans s4)) ((s2.trans s3).free hp3) upd_same ?_
      rw [t.lvs]
      exact (a1.mono fun e r' h => h.up (Tups.same (s3.trans s4))).append (a2.mono fun e r' h => h.up (Tups.same s4))
    obtain ⟨x', v1', e1', i1, i2, i3, i4, fin⟩ := fin
    cases e1'
    have hA1 : ∀ H', Same H H' → SqT K H' a [.str r.kind, v1, v2] := fun H' s => SqT.of (s _ _ hA)
    rcases t.eq with rfl | rfl
    · refine ⟨_, rfl, a, _, 0, _, rfl, rfl, SqT.of hA, rfl, rfl, _, rfl, ifP (by show decide (V.str "all" = V.str "all") = true; decide +kernel) (ifP rfl ?_)⟩
      exact ⟨_, rfl, a, _, 1, v1, rfl, rfl, SqT.of hA, rfl, x', v1, rfl, i1, i2, i3, i4, fun p1 H1 w1 s2 n1 e1 a1 => ⟨_, rfl, a, _, 2, v2, rfl, rfl, hA1 _ s2, rfl, fin p1 H1 w1 s2 n1 e1 a1⟩⟩
    · refine ⟨_, rfl, a, _, 0, _, rfl, rfl, SqT.of hA, rfl, rfl, _, rfl, ifN (by show ¬ decide (V.str "any" = V.str "all") = true; decide +kernel) ⟨_, rfl, a, _, 0, _, rfl, rfl, SqT.of hA, rfl, rfl, _, rfl, ifP (by show decide (V.str "any" = V.str "any") = true; decide +kernel) ?_⟩⟩
      exact ⟨_, rfl, a, _, 1, v1, rfl, rfl, SqT.of hA, rfl, x', v1, rfl, i1, i2, i3, i4, fun p1 H1 w1 s2 n1 e1 a1 => ⟨_, rfl, a, _, 2, v2, rfl, rfl, hA1 _ s2, rfl, fin p1 H1 w1 s2 n1 e1 a1⟩⟩
theorem leaves_none {k : Nat} : FnOk P w K mg base CX0 k f fd ["_law_rule_here"] (spLeaves 0) := by
  have no : ∀ vs H Q E, ¬ spLeaves 0 vs H Q E := fun vs H Q E h => by
    obtain ⟨r, v, _, _, _, dep, _⟩ := h
    omega
  exact ⟨fun vs H Q E h => absurd h (no vs H Q E), fun A outer s H args us vs Q E _ _ _ _ h => absurd h (no vs H Q E)⟩
theorem df_leaves (a : At K mg "_law_leaves" sLeaves ["_law_rule_here"] f fd) : ∀ n : Nat, Df P w K mg base "_law_leaves" n ["_law_rule_here"] (spLeaves n) f fd
  | 0 => a.df leaves_none
  | n + 1 => a.df (leaves_step a.fn (df_leaves a n))

/-! ### what a rule names, as the law reckons it -/
def spAsc (g : Rule → List Int) : Sp := fun vs H Q _ => ∃ (r : Rule) (v : V), vs = [v] ∧ IsRule H r v ∧ r.Ok ∧ r.depth ≤ 3 ∧
  ∀ (p : Addr) (H' : Hp) (cs : List Int), Same H H' → H p = none → H' p = some (.lst (cs.map V.int)) → Asc (g r) cs → cs.length ≤ 8 → Q (.ref p) H'
theorem ok_chs {fl : Addr} {fdl : FuncData} (F : Fun K "_law_chambers_of" "_law_chambers_of" sChs f fd) (M : Txt mg) (GL : Df P w K mg base "_law_leaves" 4 ["_law_rule_here"] (spLeaves 4) fl fdl) : FnOk P w K mg base CX0 5 f fd ["_law_rule_here"] (spAsc Rule.chs) := by
  refine F.ok scChs (fun vs H Q E h => ?_) (fun cdv A outer s H vs Q E hr h => ?_)
  · obtain ⟨r, v, rfl, _⟩ := h
    rfl
  obtain ⟨r, v, rfl, hR, ok, d3, q⟩ := h
  refine ⟨_, pss_one (ps_ret (pe_callB (cr_sortedSet rfl) rfl M.sorted b_sorted (pa_cons (pe_callTy (cr_setL rfl) rfl M.set b_set (pa_cons (pe_lc (own := [("_law_leaf", 1)]) (g := gName 1) (by rfl) scChs.nd (pi_list (pd GL hr (pa_cons (pv 0) pa_nil)))
    (blkOk_by (own := [("_law_leaf", 1)]) (N := ["_law_rule_here", "_law_leaf"]) (sc := defScope sChs) (by decide +kernel)) (fun _ _ _ _ _ => pg_name (i := 1) scChs.nd rfl (Or.inl rfl)) (fun _ _ _ _ _ => pts_one (pt_cmpR op_ne (pe_ix (r := rIxT K) ix_tup (pv 1) pe_int (fun _ _ => rfl)) pe_str (nomark _)))
    (fun _ _ _ _ _ => pe_ix (r := rIxT K) ix_tup (pv 1) pe_int (fun _ _ => rfl))) pa_nil)) pa_nil))), ?_⟩
  refine ⟨_, rfl, r, v, rfl, hR, ok, by omega, d3, fun p H1 ws s1 n1 e1 al => ⟨p, rfl, ⟨_, SqL.of e1⟩, fun D nD => ?_⟩⟩
  have hlen : r.leaves.length ≤ 8 := Nat.le_trans (leaves_len r) (pow_depth d3)
  have len1 : ∀ (i : Nat), ((r.leaves.take i).filterMap Rule.ch).length ≤ 8 := fun i => by
    have l1 := List.length_filterMap_le Rule.ch (r.leaves.take i)
    have l2 : (r.leaves.take i).length ≤ r.leaves.length := List.length_take_le' i _
    omega
  refine lc_list (K := K) (a := p) (xs := ws) (fun i H' => Same H1 H' ∧ H' D = some (.lst (((r.leaves.take i).filterMap Rule.ch).map V.int))) ⟨same_new nD _, upd_same⟩ (fun i H' _ h => SqL.of (h.1 _ _ e1)) ?_ ?_
  · rintro i e H2 he ⟨s2, e2⟩
    obtain ⟨r', hr', hR'⟩ := al.get he
    have mem' := List.mem_of_getElem? hr'
    have hR2 := hR'.up (Tups.same s2)
    rcases flat_cases (leaves_flat r r' mem') with sm | rfl
    · obtain ⟨b, c, rest, rfl, hB, hc, h0⟩ := simple_head sm (leaves_ok r ok r' mem') hR2
      refine ⟨rfl, _, rfl, b, _, 0, _, rfl, rfl, SqT.of hB, at0, rfl, _, rfl, ifP (by have := simple_noprem sm; simpa using this) ?_⟩
      refine ⟨_, rfl, b, _, 1, _, rfl, rfl, SqT.of hB, at1, _, e2, by rw [List.length_map]; exact small1000 (by have := len1 i; omega), same_back s2 nD _, ?_⟩
      rw [upd_same, take_fm hr', hc, List.map_append]
      rfl
    · obtain ⟨b, rfl, hB⟩ := hR2
      refine ⟨rfl, _, rfl, b, _, 0, _, rfl, rfl, SqT.of hB, rfl, rfl, _, rfl, ifN (by decide +kernel) ⟨s2, ?_⟩⟩
      rw [e2, take_fm hr']
      show some _ = some (HO.lst (((_ : List Int) ++ []).map V.int))
      rw [List.append_nil]
  · rintro H2 ⟨s2, e2⟩
    rw [al.1, List.take_length] at e2
    have l8 : r.chs.length ≤ 8 := by
      have := len1 r.leaves.length
      rw [List.take_length] at this
      exact this
    refine ⟨D, r.chs, rfl, SqL.of e2, by omega, fun s3 c1 hs1 hc1 => ⟨s3, _, c1, rfl, upd_same, by omega, fun cs p1 o1 m1 lc f1 => ?_⟩⟩
    have sE := (same_new hs1 (SetO w s3 (fun j => decide (j ∈ r.chs)) c1)).trans (same_new f1 (.lst (cs.map V.int)))
    exact q p1 _ cs (s1.trans (s2.trans sE)) ((s1.trans s2).free ((same_new hs1 _).free f1)) upd_same (asc_of o1 m1) (by omega)
theorem ok_nos {fl : Addr} {fdl : FuncData} (F : Fun K "_law_numbers_of" "_law_numbers_of" sNos f fd) (M : Txt mg) (GL : Df P w K mg base "_law_leaves" 4 ["_law_rule_here"] (spLeaves 4) fl fdl) : FnOk P w K mg base CX0 5 f fd ["_law_rule_here"] (spAsc Rule.nos) := by
  refine F.ok scNos (fun vs H Q E h => ?_) (fun cdv A outer s H vs Q E hr h => ?_)
  · obtain ⟨r, v, rfl, _⟩ := h
    rfl
  obtain ⟨r, v, rfl, hR, ok, d3, q⟩ := h
  refine ⟨_, pss_cons (ps_set (i := 1) scNos.nd rfl (.inl rfl) (pe_lst pa_nil))
    (pss_cons (ps_for PassesOwn.never rfl (pi_list (pd GL hr (pa_cons (pv 0) pa_nil))) (pg_name (i := 2) scNos.nd rfl (.inl rfl))
      (pss_one (ps_if (PW.pt (pw_and (pt_cmpR op_in_seq (pe_ix ix_tup (pv 2) pe_int (fun _ _ => rfl)) (pe_lst (pa_cons pe_str (pa_cons pe_str pa_nil))) rfl) (pw_and1 (pt_val (p_isi M.isi M.tuple b_tuple (pe_ix ix_tup (pv 2) pe_int (fun _ _ => rfl)))))))
        (pss_one (ps_expr (pe_bm PySem.F.plainAttrs_list PySem.F.slot_list_append PySem.F.type_list_append mt_append (pv 1) (pa_cons (pe_ix ix_tup (pe_ix ix_tup (pv 2) pe_int (fun _ _ => rfl)) pe_int (fun _ _ => rfl)) pa_nil)))) pss_nil)))
    (pss_one (ps_ret (pe_callB (cr_sortedSet rfl) rfl M.sorted b_sorted (pa_cons (pe_callTy (cr_setL rfl) rfl M.set b_set (pa_cons (pv 1) pa_nil)) pa_nil))))), ?_⟩
  refine ⟨Nat.zero_le _, fun lr nR => ?_⟩
  have s0 : Same H (upd H lr (.lst [])) := same_new nR _
  refine ⟨_, rfl, r, v, rfl, hR.up (Tups.same s0), ok, by omega, d3, fun p H2 ws s2 n2 e2 al => ⟨p, rfl, ⟨_, SqL.of e2⟩, ?_⟩⟩
  have npR : lr ≠ p := ne_of_none upd_same n2
  have hlen : r.leaves.length ≤ 8 := Nat.le_trans (leaves_len r) (pow_depth d3)
  have len1 : ∀ (i : Nat), ((r.leaves.take i).filterMap Rule.no).length ≤ 8 := fun i => by
    have l1 := List.length_filterMap_le Rule.no (r.leaves.take i)
    have l2 : (r.leaves.take i).length ≤ r.leaves.length := List.length_take_le' i _
    omega
  refine for_list (K := K) (a := p) (xs := ws) (fun i σ H' => ∃ y, σ = [some v, some (.ref lr), y] ∧ Same H H' ∧ AllP (fun e r' => IsRule H' r' e) ws r.leaves ∧ H' p = some (.lst ws) ∧ H' lr = some (.lst (((r.leaves.take i).filterMap Rule.no).map V.int)))
    ⟨none, rfl, s0.trans s2, al, e2, s2 _ _ upd_same⟩ (fun i σ H' _ ⟨_, _, _, _, e, _⟩ => SqL.of e) ?_ ?_
  · rintro i e σ H1 he ⟨y, rfl, sH, al1, eP, eR⟩
    obtain ⟨r', hr', hR'⟩ := al1.get he
    have mem' := List.mem_of_getElem? hr'
    have sN : ∀ p3, H1 p3 = none → Same H1 (upd H1 p3 (.lst [.str "yeas", .str "quorum"])) := fun p3 n => same_new n _
    rcases flat_cases (leaves_flat r r' mem') with sm | rfl
    · obtain ⟨b, c, rest, rfl, hB, hc, h0⟩ := simple_head sm (leaves_ok r ok r' mem') hR'
      refine ⟨_, rfl, b, _, 0, _, rfl, rfl, SqT.of hB, at0, (by show 2 ≤ sizeLine; decide), fun p3 hp3 => ⟨p3, _, rfl, .inl (SqL.of upd_same), rfl, rfl, _, rfl, ?_⟩⟩
      have s3 := sN p3 hp3
      have sH2 := sH.trans s3
      have T3 := Tups.same s3
      have al2 : AllP (fun e r' => IsRule (upd H1 p3 (.lst [.str "yeas", .str "quorum"])) r' e) ws r.leaves := al1.mono fun _ _ h => h.up T3
      have eP2 := s3 _ _ eP
      have eR2 := s3 _ _ eR
      have hR2 := hR'.up T3
      rcases simple_in sm hR2 with ⟨hin, b', c', x, t, eb, hB3, hX, hno⟩ | ⟨hin, hno⟩
      · cases eb
        refine ifP hin ?_
        cases t with
        | num n =>
          cases (show x = .int n from hX)
          refine ⟨_, rfl, b, _, 2, _, rfl, rfl, SqT.of hB3, rfl, _, _, false, rfl, .base (.int n), by decide +kernel, _, rfl, ifN (by decide) ⟨_, rfl, sH2, al2, eP2, ?_⟩⟩
          rw [eR2, take_fm hr', hno]
          show some _ = some (HO.lst (((_ : List Int) ++ []).map V.int))
          rw [List.append_nil]
        | par k =>
          obtain ⟨d, rfl, hD⟩ := hX
          refine ⟨_, rfl, b, _, 2, _, rfl, rfl, SqT.of hB3, rfl, _, _, true, rfl, .base (.tup hD), by decide +kernel, _, rfl, ifP rfl ?_⟩
          refine ⟨_, rfl, .inl ⟨rfl, _, SqL.of eR2⟩, _, rfl, b, _, 2, _, rfl, rfl, SqT.of hB3, rfl, d, _, 1, _, rfl, rfl, SqT.of hD, rfl, lr, _, _, rfl, rfl, eR2, by rw [List.length_map]; exact small1000 (by have := len1 i; omega), ?_⟩
          have T4 := Tups.lst eR2 (.lst (((r.leaves.take i).filterMap Rule.no).map V.int ++ [.int k]))
          refine ⟨_, rfl, same_back sH2 nR _, al2.mono fun _ _ h => h.up T4, by rw [upd_ne npR.symm]; exact eP2, ?_⟩
          rw [upd_same, take_fm hr', hno, List.map_append]
          rfl
      · refine ifN hin (ifN (by decide) ⟨_, rfl, sH2, al2, eP2, ?_⟩)
        rw [eR2, take_fm hr', hno]
        show some _ = some (HO.lst (((_ : List Int) ++ []).map V.int))
        rw [List.append_nil]
    · obtain ⟨b, rfl, hB⟩ := hR'
      refine ⟨_, rfl, b, _, 0, _, rfl, rfl, SqT.of hB, rfl, (by show 2 ≤ sizeLine; decide), fun p3 hp3 => ⟨p3, _, rfl, .inl (SqL.of upd_same), rfl, rfl, _, rfl, ifN (by decide +kernel) (ifN (by decide) ?_)⟩⟩
      have s3 := sN p3 hp3
      refine ⟨_, rfl, sH.trans s3, al1.mono fun _ _ h => h.up (Tups.same s3), s3 _ _ eP, ?_⟩
      rw [s3 _ _ eR, take_fm hr']
      show some _ = some (HO.lst (((_ : List Int) ++ []).map V.int))
      rw [List.append_nil]
  · rintro σ H1 ⟨y, rfl, sH, _, _, eR⟩
    rw [al.1, List.take_length] at eR
    have l8 : r.nos.length ≤ 8 := by
      have := len1 r.leaves.length
      rw [List.take_length] at this
      exact this
    refine ⟨_, rfl, lr, r.nos, rfl, SqL.of eR, by omega, fun s3 c1 hs1 hc1 => ⟨s3, _, c1, rfl, upd_same, by omega, fun cs p1 o1 m1 lc f1 => ?_⟩⟩
    have sE := (same_new hs1 (SetO w s3 (fun j => decide (j ∈ r.nos)) c1)).trans (same_new f1 (.lst (cs.map V.int)))
    exact q p1 _ cs (sH.trans sE) (sH.free ((same_new hs1 _).free f1)) upd_same (asc_of o1 m1) (by omega)
end
end Gz

namespace Gz
open PySem PySem.Spec PyProof.Rows L2

theorem flat_ints : ∀ ns : List Int, (ns.map V.int).all flatV = true
  | [] => rfl
  | _ :: ns => by
    have ih := flat_ints ns
    show (true && (ns.map V.int).all flatV) = true
    rw [ih]
    rfl
theorem in_ints (k : Int) : ∀ ns : List Int, inV (V.int k) (ns.map V.int) = decide (k ∈ ns)
  | [] => rfl
  | x :: ns => by
    have ih := in_ints k ns
    show ((x == k) || inV (V.int k) (ns.map V.int)) = _
    rw [ih, Bool.eq_iff_iff]
    simp only [Bool.or_eq_true, beq_iff_eq, decide_eq_true_eq, List.mem_cons]
    constructor
    · rintro (h | h)
      · exact .inl h.symm
      · exact .inr h
    · rintro (h | h)
      · exact .inl h.symm
      · exact .inr h
def spOther : Sp := fun vs H Q _ => ∃ (t l b : Addr) (v : V) (L ns : List Int), vs = [.ref t, v, .ref b] ∧ Tp H t l ∧ IsInts H v L ∧ LimOk L ∧ H b = some (.lst (ns.map V.int)) ∧ b ≠ t ∧ (∀ k ∈ ns, 0 ≤ k ∧ k < 8) ∧
  ∀ (u : V) (H' : Hp) (O : List Int), Keep t H H' → Tp H' t l → IsInts H' u O → (∀ k ∈ ns, parOf O k = parOf L k) → Q u H'
theorem parOf_pos {L : List Int} (h : LimOk L) (k : Int) : 0 ≤ parOf L k := by
  unfold parOf
  rw [List.getD_eq_getElem?_getD]
  cases e : L[k.toNat]? with
  | none => exact Int.le_refl 0
  | some x => exact h.2 x (List.mem_of_getElem? e)
section
variable {P : Program} {w : World} {K : PySem.W.Frag} {mg : Str → Option Value} {base : Heap} {f fw : Addr} {fd fdw : FuncData}
theorem ok_other (F : Fun K "_law_other_limits" "_law_other_limits" sOther f fd) (M : Txt mg) (GD : Df P w K mg base "_law_draw" 1 psDraw spDraw fw fdw) : FnOk P w K mg base CX0 2 f fd ["_law_tape_here", "_law_limits_here", "_law_numbers"] spOther := by
  refine F.ok scOther (fun vs H Q E h => ?_) (fun cdv A outer s H vs Q E hr h => ?_)
  · obtain ⟨t, l, b, v, L, ns, rfl, _⟩ := h
    rfl
  obtain ⟨t, l, b, v, L, ns, rfl, hT, ⟨c, rfl, hL⟩, lok, hB, nb, nok, q⟩ := h
  refine ⟨_, pss_cons (ps_set (i := 3) scOther.nd rfl (.inl rfl) (pd GD hr (pa_cons (pv 0) (pa_cons pe_int pa_nil))))
    (pss_cons (ps_for PassesOwn.never rfl (pi_list (pv 2)) (pg_name (i := 4) scOther.nd rfl (.inl rfl))
      (pss_one (ps_if (PW.pt (pw_and (pt_cmpR op_lt (pv 4) (pe_callB call_len_seq rfl M.len b_len (pa_cons (pv 1) pa_nil)) (nomark _)) (pw_and1 (pt_cmpR op_gt (pe_ix ix_tup (pv 1) (pv 4) (fun _ _ => rfl)) pe_int (nomark _)))))
        (pss_one (ps_set (i := 3) scOther.nd rfl (.inl rfl) (pe_callB (call_max2 rfl) rfl M.max b_max (pa_cons (pv 3) (pa_cons (pe_op op_add (pv 4) pe_int) pa_nil))))) pss_nil)))
    (pss_cons (ps_set (i := 5) scOther.nd rfl (.inl rfl) (pe_lst pa_nil))
    (pss_cons (ps_for PassesOwn.never rfl (pi_range1 rfl M.range (pa_cons (pv 3) pa_nil)) (pg_name (i := 6) scOther.nd rfl (.inl rfl))
      (pss_cons (ps_set (i := 7) scOther.nd rfl (.inl rfl) (pd GD hr (pa_cons (pv 0) (pa_cons pe_int pa_nil))))
      (C8.pss_cut (ps_if (pt_cmpR op_in_seq (pv 6) (pv 2) rfl)
          (pss_cons (ps_set (i := 7) scOther.nd rfl (.inl rfl) pe_int)
          (pss_one (ps_if (pt_cmpR op_lt (pv 6) (pe_callB call_len_seq rfl M.len b_len (pa_cons (pv 1) pa_nil)) (nomark _)) (pss_one (ps_set (i := 7) scOther.nd rfl (.inl rfl) (pe_ix ix_tup (pv 1) (pv 6) (fun _ _ => rfl)))) pss_nil))) pss_nil)
      (pss_one (ps_expr (pe_bm PySem.F.plainAttrs_list PySem.F.slot_list_append PySem.F.type_list_append mt_append (pv 5) (pa_cons (pv 7) pa_nil)))))))
    (pss_one (ps_ret (pe_callTy call_tuple_of rfl M.tuple b_tuple (pa_cons (pv 5) pa_nil))))))), ?_⟩
  refine ⟨_, rfl, t, l, 9, rfl, hT, by decide, fun a H1 k1 T1 a0 a1 => ?_⟩
  have a2 := a1 (by decide)
  have B1 := k1 _ _ nb hB
  have L1 := hT.tups k1 _ _ hL
  refine ⟨_, rfl, b, rfl, ⟨_, SqL.of B1⟩, ?_⟩
  refine for_list (K := K) (a := b) (xs := ns.map V.int) (fun i σ H' => H' = H1 ∧ ∃ (m : Int) (y : Option V), σ = [some (.ref t), some (.ref c), some (.ref b), some (.int m), y, none, none, none] ∧ 0 ≤ m ∧ m ≤ 8 ∧ ∀ (j : Nat) (k : Int), j < i → ns[j]? = some k → 0 < parOf L k → k + 1 ≤ m)
    ⟨rfl, a, none, rfl, a0, by omega, fun j k h => absurd h (by omega)⟩ (fun i σ H' _ ⟨e, _⟩ => by rw [e]; exact SqL.of B1) ?_ ?_
  · rintro i x σ H' hx ⟨rfl, m, y, rfl, m0, m8, hm⟩
    rw [List.getElem?_map] at hx
    obtain ⟨k, hk, rfl⟩ := Option.map_eq_some_iff.mp hx
    have kok := nok k (List.mem_of_getElem? hk)
    have step : ∀ m' : Int, m ≤ m' → (0 < parOf L k → k + 1 ≤ m') → ∀ (j : Nat) (k' : Int), j < i + 1 → ns[j]? = some k' → 0 < parOf L k' → k' + 1 ≤ m' := fun m' le hk' j k' hj e pos => by
      by_cases h : j < i
      · have := hm j k' h e pos
        omega
      · have e2 : j = i := by omega
        subst e2
        rw [hk] at e
        cases e
        exact hk' pos
    refine ⟨_, rfl, _, rfl, c, _, rfl, .inr (SqT.of L1), k, _, rfl, rfl, _, rfl, ite2 (fun g => ?_) (fun g => ifN (by decide) ⟨rfl, m, _, rfl, m0, m8, step m (Int.le_refl m) fun pos => ?_⟩)⟩
    · refine ⟨_, rfl, _, rfl, c, _, k, _, rfl, rfl, SqT.of L1, parOf_in kok.1 (of_decide_eq_true g), _, _, rfl, rfl, _, rfl, ite2 (fun g2 => ?_) (fun g2 => ⟨rfl, m, _, rfl, m0, m8, step m (Int.le_refl m) fun pos => absurd (decide_eq_true pos) g2⟩)⟩
      refine ⟨_, rfl, _, rfl, _, _, rfl, rfl, m, k + 1, rfl, rfl, _, _, rfl, ?_⟩
      by_cases h : k + 1 > m
      · rw [if_pos h]
        exact ⟨by omega, by omega, step _ (by omega) fun _ => Int.le_refl _⟩
      · rw [if_neg h]
        exact ⟨m0, m8, step _ (Int.le_refl m) fun _ => by omega⟩
    · have e := parOf_out (L := L) (i := k) (of_decide_eq_false (Bool.eq_false_iff.mpr g))
      rw [e] at pos
      exact absurd pos (by decide)
  rintro σ H' ⟨rfl, m, y, rfl, m0, m8, hm⟩
  rw [List.length_map] at hm
  refine ⟨Nat.zero_le _, fun O nO => ?_⟩
  have neO := T1.ne nO
  have nOb : O ≠ b := (ne_of_none B1 nO).symm
  refine ⟨_, rfl, m, rfl, by omega, by omega, ?_⟩
  refine for_range (lo := 0) (n := m.toNat) (fun i σ H2 => ∃ (y6 y7 : Option V) (os : List Int), σ = [some (.ref t), some (.ref c), some (.ref b), some (.int m), y, some (.ref O), y6, y7] ∧ Keep t H' H2 ∧ Tp H2 t l ∧ H2 O = some (.lst (os.map V.int)) ∧ os.length = i ∧ ∀ (k : Int), k ∈ ns → k.toNat < i → parOf os k = parOf L k)
    ⟨none, none, [], rfl, Keep.of (same_new nO _), T1.fresh nO _, upd_same, rfl, fun k _ h => absurd h (by omega)⟩ ?_ ?_
  · rintro i σ H2 hi ⟨y6, y7, os, rfl, k2, T2, e2, len, ok⟩
    refine ⟨_, rfl, t, l, 14, rfl, T2, by decide, fun x H3 k3 T3 x0 x1 => ?_⟩
    have kk := k2.trans k3
    have B3 := kk _ _ nb B1
    have L3 := T1.tups kk _ _ L1
    have e3 := k3 _ _ neO.1 e2
    refine ⟨fun σ' H'' => H'' = H3 ∧ ∃ z : Int, σ' = [some (.ref t), some (.ref c), some (.ref b), some (.int m), y, some (.ref O), some (.int (0 + (i : Int))), some (.int z)] ∧ ((i : Int) ∈ ns → z = parOf L (i : Int)), ?_, ?_⟩
    · refine ⟨_, rfl, _, rfl, b, _, rfl, .inl (SqL.of B3), rfl, flat_ints ns, _, rfl, ?_⟩
      refine ite2 (fun g => ?_) (fun g => ⟨rfl, x, rfl, fun hin => ?_⟩)
      · refine ⟨_, rfl, _, rfl, c, _, rfl, .inr (SqT.of L3), _, _, rfl, rfl, _, rfl, ite2 (fun g2 => ?_) (fun g2 => ⟨rfl, 0, rfl, fun _ => ?_⟩)⟩
        · refine ⟨_, rfl, _, rfl, c, _, _, _, rfl, rfl, SqT.of L3, parOf_in (by omega) (of_decide_eq_true g2), rfl, _, rfl, fun _ => by rw [Int.zero_add]⟩
        · have e := parOf_out (L := L) (i := 0 + (i : Int)) (of_decide_eq_false (Bool.eq_false_iff.mpr g2))
          rw [Int.zero_add] at e
          exact e.symm
      · refine absurd ?_ g
        show inV (V.int (0 + (i : Int))) (ns.map V.int) = true
        rw [in_ints, Int.zero_add]
        exact decide_eq_true hin
    · rintro σ' H'' ⟨rfl, z, rfl, hz⟩
      refine ⟨_, rfl, .inl ⟨rfl, _, SqL.of e3⟩, _, rfl, O, _, _, rfl, rfl, e3, by rw [List.length_map]; exact small1000 (by omega), ?_⟩
      refine ⟨_, _, os ++ [z], rfl, kk.back nO _, T3.put neO _, by rw [upd_same, List.map_append]; rfl, by rw [List.length_append, len]; rfl, fun k hk hlt => ?_⟩
      have h0 := (nok k hk).1
      by_cases h : k.toNat < i
      · have e := ok k hk h
        rw [← e]
        unfold parOf
        rw [List.getD_eq_getElem?_getD, List.getD_eq_getElem?_getD, List.getElem?_append_left (by omega)]
      · have e : k.toNat = i := by omega
        have e2 : k = (i : Int) := by omega
        subst e2
        rw [← hz hk]
        unfold parOf
        rw [List.getD_eq_getElem?_getD, e, List.getElem?_append_right (by omega), len, Nat.sub_self]
        rfl
  · rintro σ H2 ⟨y6, y7, os, rfl, k2, T2, e2, len, ok⟩
    refine ⟨_, rfl, O, _, rfl, .inl ⟨SqL.of e2, fun p hp => ?_⟩⟩
    refine q _ _ os ((k1.trans k2).trans (Keep.of (same_new hp _))) (T2.fresh hp _) ⟨p, rfl, upd_same⟩ fun k hk => ?_
    have h0 := nok k hk
    by_cases h : k.toNat < m.toNat
    · exact ok k hk h
    · have e1 : parOf os k = 0 := by
        unfold parOf
        rw [List.getD_eq_getElem?_getD, List.getElem?_eq_none (by omega)]
        rfl
      obtain ⟨j, hj⟩ := List.getElem?_of_mem hk
      have hjl : j < ns.length := (List.getElem?_eq_some_iff.mp hj).1
      have e2 : ¬ 0 < parOf L k := fun pos => by
        have := hm j k hjl hj pos
        omega
      have e3 := parOf_pos lok k
      omega
end
end Gz

namespace Gz
open PySem PySem.Spec PyProof.Rows L2

/-! ### a leaf as data: the law asks whether the premier's is among them -/
def thD : Thr → PyData
  | .num n => .int n
  | .par i => .tuple [.str "parameter", .int i]
def ruD : Rule → PyData
  | .yeas c t => .tuple [.str "yeas", .int c, thD t]
  | .quorum c t => .tuple [.str "quorum", .int c, thD t]
  | .majority c d => .tuple [.str "majority", .int c, .str (dStr d)]
  | .fraction c p q d => .tuple [.str "fraction", .int c, .int p, .int q, .str (dStr d)]
  | .premier => .tuple [.str "premier"]
  | .all _ _ => .none
  | .any _ _ => .none
section
variable {K : PySem.W.Frag} {H : Hp}
theorem thD_dp {v : V} {t : Thr} (h : IsThr H v t) : Dp K H v (thD t) := by
  cases t with
  | num n =>
    cases (show v = .int n from h)
    exact .int n
  | par i =>
    obtain ⟨a, rfl, hA⟩ := h
    exact .tup (SqT.of hA) (.cons (.str _) (.cons (.int i) .nil))
theorem ruD_dp {v : V} {r : Rule} (fl : r.flat) (h : IsRule H r v) : Dp K H v (ruD r) := by
  cases r with
  | yeas c t =>
    obtain ⟨a, u, rfl, hA, hT⟩ := h
    exact .tup (SqT.of hA) (.cons (.str _) (.cons (.int c) (.cons (thD_dp hT) .nil)))
  | quorum c t =>
    obtain ⟨a, u, rfl, hA, hT⟩ := h
    exact .tup (SqT.of hA) (.cons (.str _) (.cons (.int c) (.cons (thD_dp hT) .nil)))
  | majority c d =>
    obtain ⟨a, rfl, hA⟩ := h
    exact .tup (SqT.of hA) (.cons (.str _) (.cons (.int c) (.cons (.str _) .nil)))
  | fraction c p q d =>
    obtain ⟨a, rfl, hA⟩ := h
    exact .tup (SqT.of hA) (.cons (.str _) (.cons (.int c) (.cons (.int p) (.cons (.int q) (.cons (.str _) .nil)))))
  | premier =>
    obtain ⟨a, rfl, hA⟩ := h
    exact .tup (SqT.of hA) (.cons (.str _) .nil)
  | all x y => exact fl.elim
  | any x y => exact fl.elim
theorem dp_all : ∀ {ws : List V} {rs : List Rule}, AllP (fun e r => IsRule H r e) ws rs → (∀ r ∈ rs, r.flat) → DpAll K H ws (rs.map ruD)
  | [], [], _, _ => .nil
  | [], _ :: _, h, _ => by have := h.1; simp at this
  | _ :: _, [], h, _ => by have := h.1; simp at this
  | w :: ws, r :: rs, h, fl => .cons (ruD_dp (fl r (List.mem_cons_self ..)) (h.2 0 w r rfl rfl)) (dp_all ⟨Nat.succ.inj h.1, fun i a b h1 h2 => h.2 (i + 1) a b (by simpa using h1) (by simpa using h2)⟩ fun x hx => fl x (List.mem_cons_of_mem _ hx))
end
theorem ok_str (x : Str) (h : PyData.canLay0 (.str x) = true) : PyData.canLay0 (.str x) = true := h
theorem thD_lay (t : Thr) : (thD t).canLay0 = true ∧ (thD t).depth ≤ 1 := by
  cases t with
  | num n => exact ⟨rfl, Nat.zero_le _⟩
  | par i => exact ⟨by show (PyData.canLay0 (.str "parameter") && (true && true)) = true; decide +kernel, by show max 0 (max 0 0) + 1 ≤ 1; decide⟩
theorem den_lay (d : Den) : PyData.canLay0 (.str (dStr d)) = true := by
  cases d with
  | seats => exact (by decide +kernel : PyData.canLay0 (.str "seats") = true)
  | attending => exact (by decide +kernel : PyData.canLay0 (.str "attending") = true)
  | voting => exact (by decide +kernel : PyData.canLay0 (.str "voting") = true)
theorem ruD_lay (r : Rule) : (ruD r).canLay0 = true ∧ (ruD r).depth ≤ 2 := by
  cases r with
  | yeas c t =>
    have h := thD_lay t
    refine ⟨?_, ?_⟩
    · show (PyData.canLay0 (.str "yeas") && (true && ((thD t).canLay0 && true))) = true
      rw [h.1, show PyData.canLay0 (.str "yeas") = true by decide +kernel]
      rfl
    · show max 0 (max 0 (max (thD t).depth 0)) + 1 ≤ 2
      omega
  | quorum c t =>
    have h := thD_lay t
    refine ⟨?_, ?_⟩
    · show (PyData.canLay0 (.str "quorum") && (true && ((thD t).canLay0 && true))) = true
      rw [h.1, show PyData.canLay0 (.str "quorum") = true by decide +kernel]
      rfl
    · show max 0 (max 0 (max (thD t).depth 0)) + 1 ≤ 2
      omega
  | majority c d =>
    refine ⟨?_, ?_⟩
    · show (PyData.canLay0 (.str "majority") && (true && (PyData.canLay0 (.str (dStr d)) && true))) = true
      rw [den_lay, show PyData.canLay0 (.str "majority") = true by decide +kernel]
      rfl
    · show max 0 (max 0 (max 0 0)) + 1 ≤ 2
      decide
  | fraction c p q d =>
    refine ⟨?_, ?_⟩
    · show (PyData.canLay0 (.str "fraction") && (true && (true && (true && (PyData.canLay0 (.str (dStr d)) && true))))) = true
      rw [den_lay, show PyData.canLay0 (.str "fraction") = true by decide +kernel]
      rfl
    · show max 0 (max 0 (max 0 (max 0 (max 0 0)))) + 1 ≤ 2
      decide
  | premier => exact ⟨by show (PyData.canLay0 (.str "premier") && true) = true; decide +kernel, by show max 0 0 + 1 ≤ 2; decide⟩
  | all x y => exact ⟨rfl, Nat.zero_le _⟩
  | any x y => exact ⟨rfl, Nat.zero_le _⟩
theorem ruDs_lay : ∀ rs : List Rule, PyData.canLayAll0 (rs.map ruD) = true ∧ PyData.depthAll (rs.map ruD) ≤ 2
  | [] => ⟨rfl, Nat.zero_le _⟩
  | r :: rs => by
    have h1 := ruD_lay r
    have h2 := ruDs_lay rs
    refine ⟨?_, ?_⟩
    · show ((ruD r).canLay0 && PyData.canLayAll0 (rs.map ruD)) = true
      rw [h1.1, h2.1]
      rfl
    · show max (ruD r).depth (PyData.depthAll (rs.map ruD)) ≤ 2
      omega
theorem ruDs_shaped (rs : List Rule) : SeqAt.shaped (.list (rs.map ruD)) = true := by
  have h := ruDs_lay rs
  show (PyData.canLay0 (.list (rs.map ruD)) && decide (PyData.depth (.list (rs.map ruD)) ≤ 64)) = true
  rw [Bool.and_eq_true]
  refine ⟨h.1, decide_eq_true ?_⟩
  show PyData.depthAll (rs.map ruD) + 1 ≤ 64
  omega
theorem prem_shaped : SeqAt.shaped (.tuple [.str "premier"]) = true := by decide +kernel
theorem ruD_eqv (r : Rule) : PyData.eqv (ruD r) (.tuple [.str "premier"]) = r.isPrem := by
  cases r with
  | yeas c t =>
    show ((("yeas" : Str) == "premier") && false) = false
    rw [Bool.and_false]
  | quorum c t =>
    show ((("quorum" : Str) == "premier") && false) = false
    rw [Bool.and_false]
  | majority c d =>
    show ((("majority" : Str) == "premier") && false) = false
    rw [Bool.and_false]
  | fraction c p q d =>
    show ((("fraction" : Str) == "premier") && false) = false
    rw [Bool.and_false]
  | premier =>
    show ((("premier" : Str) == "premier") && true) = true
    rw [beq_self_eq_true]
    rfl
  | all x y => rfl
  | any x y => rfl
theorem any_prem (rs : List Rule) : ((rs.map ruD).any fun z => PyData.eqv z (.tuple [.str "premier"])) = rs.any Rule.isPrem := by
  rw [List.any_map]
  exact congrArg (List.any rs) (funext ruD_eqv)

/-! ### numbers in a rule -/
theorem chs_pos {r : Rule} (ok : r.Ok) : ∀ c ∈ r.chs, 0 ≤ c := fun c hc => by
  obtain ⟨x, hx, e⟩ := List.mem_filterMap.mp hc
  have okx := leaves_ok r ok x hx
  cases x with
  | yeas c' t => cases e; exact okx.1
  | quorum c' t => cases e; exact okx.1
  | majority c' d => cases e; exact okx
  | fraction c' p q d => cases e; exact okx.1
  | premier => cases e
  | all a b => cases e
  | any a b => cases e
theorem thr_no {t : Thr} (ok : t.Ok) {i : Int} (h : t.no = some i) : 0 ≤ i ∧ i < 8 := by
  cases t with
  | num n => cases h
  | par k => cases h; exact ok
theorem nos_pos {r : Rule} (ok : r.Ok) : ∀ i ∈ r.nos, 0 ≤ i ∧ i < 8 := fun i hi => by
  obtain ⟨x, hx, e⟩ := List.mem_filterMap.mp hi
  have okx := leaves_ok r ok x hx
  cases x with
  | yeas c t => exact thr_no okx.2 e
  | quorum c t => exact thr_no okx.2 e
  | majority c d => cases e
  | fraction c p q d => cases e
  | premier => cases e
  | all a b => cases e
  | any a b => cases e

/-! ### two legislatures -/
theorem two_leg {r : Rule} {S O : List Hold} {z z' : Str} {L L' cs ns : List Int} {m m2 : Option Int} {kv : List (Option Int)} {vc : List Nat} (ok : r.Ok) (okS : SeatsOk S) (pm : PremOk m) (A1 : Asc r.chs cs) (A2 : Asc r.nos ns)
    (hO : O.length = S.length) (hk : ∀ (j : Nat), j < S.length → (j : Int) ∈ cs → O[j]? = S[j]? ∧ ∀ hs, S[j]? = some hs → ∀ x ∈ hs, x ∈ kv) (hv : z'.cps.toList = vc) (hvl : vc.length = 12) (hvc : ∀ j : Nat, j < 12 → some (j : Int) ∈ kv → vc[j]? = some (voteC z (j : Int)))
    (hL : ∀ k ∈ ns, parOf L' k = parOf L k) (hp : r.prem = true → m2 = m ∧ m ∈ kv) : r.pass (tlOf O z') (parOf L') (premB z' m2) = r.pass (tlOf S z) (parOf L) (premB z m) := by
  have vote : ∀ k : Int, 0 ≤ k → k < 12 → some k ∈ kv → voteC z k = voteC z' k := fun k h0 h1 h => by
    have e : k = ((k.toNat : Nat) : Int) := by omega
    have q := hvc k.toNat (by omega) (by rw [← e]; exact h)
    rw [← e] at q
    show voteC z k = z'.cps.toList.getD k.toNat 45
    rw [hv, List.getD_eq_getElem?_getD, q]
    rfl
  refine pass_congr r (fun c hc => ?_) (fun i hi => hL i ((A2.2 i).mpr hi)) fun h => ?_
  · have h0 := chs_pos ok c hc
    have hcs := (A1.2 c).mpr hc
    have e : c = ((c.toNat : Nat) : Int) := by omega
    by_cases hl : c.toNat < S.length
    · obtain ⟨e1, e2⟩ := hk c.toNat hl (by rw [← e]; exact hcs)
      have eS : S[c.toNat]? = some S[c.toNat] := List.getElem?_eq_getElem hl
      rw [tlOf_some eS, tlOf_some (e1.trans eS)]
      refine (tlC_congr fun k hk2 => ?_).symm
      have hm := (okS.2 _ (List.getElem_mem hl)).2 k hk2
      exact vote k hm.1 hm.2 (e2 _ eS _ hk2)
    · rw [tlOf_none (List.getElem?_eq_none (by omega)), tlOf_none (List.getElem?_eq_none (by omega))]
  · obtain ⟨rfl, h2⟩ := hp h
    cases m2 with
    | none => rfl
    | some k =>
      have hm := pm k rfl
      show (voteC z' k == 89) = (voteC z k == 89)
      rw [vote k hm.1 hm.2 h2]

/-! ### what stands while the law runs -/
structure Ev (H : Hp) (t l C N : Addr) (r : Rule) (vr vS vL : V) (S : List Hold) (z : Str) (L : List Int) (m : Option Int) (cs ns : List Int) : Prop where
  tp : Tp H t l
  hr : IsRule H r vr
  ok : r.Ok
  dp : r.depth ≤ 3
  hs : IsSeats H vS S
  oks : SeatsOk S
  rz : RollOk z
  hl : IsInts H vL L
  okl : LimOk L
  pm : PremOk m
  hC : H C = some (.lst (cs.map V.int))
  nC : C ≠ t
  hN : H N = some (.lst (ns.map V.int))
  nN : N ≠ t
  aC : Asc r.chs cs
  aN : Asc r.nos ns
section
variable {H H' : Hp} {t l C N : Addr} {r : Rule} {vr vS vL : V} {S : List Hold} {z : Str} {L : List Int} {m : Option Int} {cs ns : List Int}
theorem Ev.keep (e : Ev H t l C N r vr vS vL S z L m cs ns) (k : Keep t H H') (T : Tp H' t l) : Ev H' t l C N r vr vS vL S z L m cs ns :=
  ⟨T, e.hr.up (e.tp.tups k), e.ok, e.dp, e.hs.up (e.tp.tups k), e.oks, e.rz, e.hl.up (e.tp.tups k), e.okl, e.pm, k _ _ e.nC e.hC, e.nC, k _ _ e.nN e.hN, e.nN, e.aC, e.aN⟩
theorem Ev.same (e : Ev H t l C N r vr vS vL S z L m cs ns) (s : Same H H') : Ev H' t l C N r vr vS vL S z L m cs ns := e.keep (Keep.of s) (e.tp.same s)
theorem Ev.fresh (e : Ev H t l C N r vr vS vL S z L m cs ns) {u : Addr} (n : H u = none) (o : HO) : Ev (upd H u o) t l C N r vr vS vL S z L m cs ns := e.same (same_new n o)
/-- a place of the law's own -/
def Own (u t l C N : Addr) : Prop := (u ≠ t ∧ u ≠ l) ∧ u ≠ C ∧ u ≠ N
theorem Ev.own (e : Ev H t l C N r vr vS vL S z L m cs ns) {u : Addr} (n : H u = none) : Own u t l C N := ⟨e.tp.ne n, (ne_of_none e.hC n).symm, (ne_of_none e.hN n).symm⟩
theorem Ev.put (e : Ev H t l C N r vr vS vL S z L m cs ns) {u : Addr} {xs : List V} (h : H u = some (.lst xs)) (n : Own u t l C N) (o : HO) : Ev (upd H u o) t l C N r vr vS vL S z L m cs ns := by
  have U := Tups.lst h o
  exact ⟨e.tp.put n.1 o, e.hr.up U, e.ok, e.dp, e.hs.up U, e.oks, e.rz, e.hl.up U, e.okl, e.pm, by rw [upd_ne n.2.1.symm]; exact e.hC, e.nC, by rw [upd_ne n.2.2.symm]; exact e.hN, e.nN, e.aC, e.aN⟩
end
theorem eqs_ints (H : Hp) (ns : List Int) : AllP (Eqs H 0) (ns.map V.int) (ns.map V.int) := ⟨rfl, fun i x y h1 h2 => by
  rw [h1] at h2
  cases h2
  rw [List.getElem?_map] at h1
  obtain ⟨k, _, rfl⟩ := Option.map_eq_some_iff.mp h1
  exact .inl ⟨k, rfl, rfl⟩⟩
theorem flat_holds : ∀ kv : List (Option Int), (kv.map hV).all flatV = true
  | [] => rfl
  | o :: kv => by
    have ih := flat_holds kv
    show (flatV (hV o) && (kv.map hV).all flatV) = true
    rw [ih]
    cases o <;> rfl
theorem in_holds (k : Int) : ∀ kv : List (Option Int), inV (V.int k) (kv.map hV) = decide (some k ∈ kv)
  | [] => rfl
  | o :: kv => by
    have ih := in_holds k kv
    have e : eqV (hV o) (V.int k) = decide (some k = o) := by
      cases o with
      | none => rfl
      | some x =>
        show (x == k) = _
        rw [Bool.eq_iff_iff, beq_iff_eq, decide_eq_true_eq]
        constructor
        · intro h
          rw [h]
        · intro h
          exact (Option.some.inj h).symm
    show (eqV (hV o) (V.int k) || inV (V.int k) (kv.map hV)) = _
    rw [ih, e, Bool.eq_iff_iff]
    simp only [Bool.or_eq_true, decide_eq_true_eq, List.mem_cons]
theorem mul12 : MulOk ("-" : Str) 12 := by unfold MulOk; decide +kernel
theorem dashes : (Txt.mul ("-" : Str) 12).cps.toList = List.replicate 12 45 := by decide +kernel
theorem dashes_len : (Txt.mul ("-" : Str) 12).length = 12 := by decide +kernel
/-- the roll call, made long enough, at a member -/
theorem at_long {z : Str} {j : Nat} (h : j < 12) : atI (z ++ Txt.mul ("-" : Str) 12).cps.toList (j : Int) = some (voteC z (j : Int)) := by
  have e : (z ++ Txt.mul ("-" : Str) 12).cps.toList = z.cps.toList ++ List.replicate 12 45 := by
    have := TL.tl_append z (Txt.mul ("-" : Str) 12)
    rw [show TL.tl (Txt.mul ("-" : Str) 12) = List.replicate 12 45 from dashes] at this
    exact this
  rw [e]
  refine atI_nat ?_
  unfold voteC
  rw [List.getD_eq_getElem?_getD, Int.toNat_natCast]
  by_cases hj : j < z.cps.toList.length
  · rw [List.getElem?_append_left hj, List.getElem?_eq_getElem hj]
    rfl
  · rw [List.getElem?_append_right (by omega), List.getElem?_eq_none (l := z.cps.toList) (by omega), List.getElem?_replicate]
    rw [if_pos (by omega)]
    rfl
end Gz

namespace Gz
open PySem PySem.Spec PyProof.Rows L2

abbrev sLaw : Stmt := topS 30
abbrev nmLaw : List Str := ["_law_script", "_law_tape_here", "_law_rule_here", "_law_seats_here", "_law_roll_here", "_law_limits_here", "_law_leader_here", "_law_chambers", "_law_numbers", "_law_other", "_law_row", "_law_kept", "_law_others", "_law_k", "_law_votes", "_law_member", "_law_due", "_law_changed"]
theorem scLaw : FnScope nmLaw ["_law_script"] (defScope sLaw) := ⟨rfl, rfl, rfl, by decide +kernel, rfl, by decide +kernel, by decide +kernel⟩
def spLaw (K : PySem.W.Frag) : Sp := fun vs H Q _ => ∃ (a : Addr) (ns : List Int), vs = [.ref a] ∧ SqL K H a (ns.map V.int) ∧ ∀ H', Q (.bl true) H'
abbrev kinds6 : List Str := ["yeas", "quorum", "majority", "fraction", "quorum", "premier"]
theorem kinds6_ok : ∀ k ∈ kinds6, KindOk k := fun k hk => by
  simp only [kinds6, List.mem_cons, List.mem_singleton, List.not_mem_nil, or_false] at hk
  unfold KindOk
  rcases hk with h | h | h | h | h | h
  · exact .inl h
  · exact .inr (.inl h)
  · exact .inr (.inr (.inl h))
  · exact .inr (.inr (.inr (.inl h)))
  · exact .inr (.inl h)
  · exact .inr (.inr (.inr (.inr h)))
theorem src_of {H : Hp} {t l C D : Addr} {cs : List Int} (T : Tp H t l) (nC : H C = none) (nD : (upd H C (.lst (cs.map V.int))) D = none) (c0 : 1 ≤ cs.length ∧ cs.length ≤ 100) (cok : ∀ c ∈ cs, 0 ≤ c) :
    Src (upd (upd H C (.lst (cs.map V.int))) D (.lst (kinds6.map V.str))) t C D cs kinds6 :=
  ⟨(same_new nD _) _ _ upd_same, (T.ne nC).1, upd_same, ((T.fresh nC _).ne nD).1, c0, ⟨by decide, by decide⟩, cok, kinds6_ok⟩
/-- the others and the kept, behind i chambers -/
structure Mid (H : Hp) (t l C N Ot kp : Addr) (S : List Hold) (cs : List Int) (i b : Nat) (vs : List V) (O : List Hold) (kv : List (Option Int)) : Prop where
  hO : H Ot = some (.lst vs)
  al : AllP (IsHold H) vs O
  len : O.length = i
  oks : ∀ hs ∈ O, HoldOk hs
  hK : H kp = some (.lst (kv.map hV))
  own : Own kp t l C N
  ne : kp ≠ Ot
  kl : kv.length ≤ 12 * i + b
  kept : ∀ j : Nat, j < i → (j : Int) ∈ cs → O[j]? = S[j]? ∧ ∀ hs, S[j]? = some hs → ∀ x ∈ hs, x ∈ kv
section
variable {H H' : Hp} {t l C N Ot kp : Addr} {S : List Hold} {cs : List Int} {i b : Nat} {vs : List V} {O : List Hold} {kv : List (Option Int)}
theorem Mid.keep (d : Mid H t l C N Ot kp S cs i b vs O kv) (o : Own Ot t l C N) (k : Keep t H H') (U : Tups H H') : Mid H' t l C N Ot kp S cs i b vs O kv :=
  ⟨k _ _ o.1.1 d.hO, d.al.mono fun _ _ h => h.up U, d.len, d.oks, k _ _ d.own.1.1 d.hK, d.own, d.ne, d.kl, d.kept⟩
theorem Mid.same (d : Mid H t l C N Ot kp S cs i b vs O kv) (s : Same H H') : Mid H' t l C N Ot kp S cs i b vs O kv :=
  ⟨s _ _ d.hO, d.al.mono fun _ _ h => h.up (Tups.same s), d.len, d.oks, s _ _ d.hK, d.own, d.ne, d.kl, d.kept⟩
theorem Mid.put (d : Mid H t l C N Ot kp S cs i b vs O kv) {u : Addr} {xs : List V} (h : H u = some (.lst xs)) (n1 : u ≠ Ot) (n2 : u ≠ kp) (o : HO) : Mid (upd H u o) t l C N Ot kp S cs i b vs O kv :=
  ⟨by rw [upd_ne n1.symm]; exact d.hO, d.al.mono fun _ _ z => z.up (Tups.lst h o), d.len, d.oks, by rw [upd_ne n2.symm]; exact d.hK, d.own, d.ne, d.kl, d.kept⟩
end
/-- all that the law calls -/
structure Defs (P : Program) (w : World) (K : PySem.W.Frag) (mg : Str → Option Value) (base : Heap) (fP : Addr) (fdP : FuncData) : Prop where
  tape : ∃ f fd, Df P w K mg base "_law_tape" 1 ["_law_script"] (spTape K) f fd
  draw : ∃ f fd, Df P w K mg base "_law_draw" 1 psDraw spDraw f fd
  rule : ∃ f fd, Df P w K mg base "_law_rule" 7 psRule (spRule 4) f fd
  seats : ∃ f fd, Df P w K mg base "_law_seats" 3 ["_law_tape_here", "_law_most"] spSeats f fd
  roll : ∃ f fd, Df P w K mg base "_law_roll" 2 ["_law_tape_here", "_law_many"] spRoll f fd
  limits : ∃ f fd, Df P w K mg base "_law_limits" 2 ["_law_tape_here"] spLimits f fd
  leader : ∃ f fd, Df P w K mg base "_law_leader" 2 ["_law_tape_here"] spLeader f fd
  chs : ∃ f fd, Df P w K mg base "_law_chambers_of" 5 ["_law_rule_here"] (spAsc Rule.chs) f fd
  nos : ∃ f fd, Df P w K mg base "_law_numbers_of" 5 ["_law_rule_here"] (spAsc Rule.nos) f fd
  same : ∃ f fd, Df P w K mg base "_law_same" 3 psSame (spSame 3) f fd
  named : ∃ f fd, Df P w K mg base "named" 5 ["rule"] spNamed f fd
  holders : ∃ f fd, Df P w K mg base "_law_holders" 2 ["_law_tape_here", "_law_top"] spHolders f fd
  leaves : ∃ f fd, Df P w K mg base "_law_leaves" 4 ["_law_rule_here"] (spLeaves 4) f fd
  lpass : ∃ f fd, Df P w K mg base "_law_passes" 6 psLPass (spLPass 4) f fd
  other : ∃ f fd, Df P w K mg base "_law_other_limits" 2 ["_law_tape_here", "_law_limits_here", "_law_numbers"] spOther f fd
  pass : FnOk P w K mg base CX0 6 fP fdP psPass (spPass 4)
  gmP : mg "passes" = some (.ref fP)
  kpP : PySem.W.keepIn K (.ref fP) = true
  kbP : KBn K fdP psPass 3 ["parameters", "premier"] (fun us ws => us ++ ws) (fun vs zs => vs ++ zs)
section
variable {P : Program} {w : World} {K : PySem.W.Frag} {mg : Str → Option Value} {base : Heap} {f : Addr} {fd : FuncData}
theorem ok_law {fP : Addr} {fdP : FuncData} (F : Fun K "law" "law" sLaw f fd) (M : Txt mg) (D : Defs P w K mg base fP fdP) : FnOk P w K mg base CX0 8 f fd ["_law_script"] (spLaw K) := by
  obtain ⟨_, _, GTape⟩ := D.tape
  obtain ⟨_, _, GD⟩ := D.draw
  obtain ⟨_, _, GRule⟩ := D.rule
  obtain ⟨_, _, GSeats⟩ := D.seats
  obtain ⟨_, _, GRoll⟩ := D.roll
  obtain ⟨_, _, GLimits⟩ := D.limits
  obtain ⟨_, _, GLeader⟩ := D.leader
  obtain ⟨_, _, GChs⟩ := D.chs
  obtain ⟨_, _, GNos⟩ := D.nos
  obtain ⟨_, _, GSame⟩ := D.same
  obtain ⟨_, _, GNamed⟩ := D.named
  obtain ⟨_, _, GHolders⟩ := D.holders
  obtain ⟨_, _, GLeaves⟩ := D.leaves
  obtain ⟨_, _, GLPass⟩ := D.lpass
  obtain ⟨_, _, GOther⟩ := D.other
  refine F.ok scLaw (fun vs H Q E h => ?_) (fun cdv A outer s H vs Q E hr h => ?_)
  · obtain ⟨a, ns, rfl, _⟩ := h
    rfl
  obtain ⟨a, script, rfl, hS, q⟩ := h
  have r1 : Room 1 _ := hr.mono (by decide)
  have r2 : Room 2 _ := hr.mono (by decide)
  have r3 : Room 3 _ := hr.mono (by decide)
  have r4 : Room 4 _ := hr.mono (by decide)
  have r5 : Room 5 _ := hr.mono (by decide)
  have r6 : Room 6 _ := hr.mono (by decide)
  have hu : (A.deeper (envOfC "law" (defScope sLaw) s.heap.objs.size f cdv)).units + 65 < cLine := by
    have := hr.un
    omega
  refine ⟨_, pss_cons (ps_set (i := 1) scLaw.nd rfl (.inl rfl) (pd GTape r1 (pa_cons (pv 0) pa_nil)))
    (pss_cons (ps_set (i := 2) scLaw.nd rfl (.inl rfl) (pd GRule hr (pa_cons (pv 1) (pa_cons (pe_lst (pa_cons pe_int (pa_cons pe_int (pa_cons pe_int (pa_cons pe_int (pa_cons pe_int pa_nil)))))) (pa_cons (pe_lst (pa_cons pe_str (pa_cons pe_str (pa_cons pe_str (pa_cons pe_str (pa_cons pe_str (pa_cons pe_str pa_nil))))))) (pa_cons pe_int pa_nil))))))
    (pss_cons (ps_set (i := 3) scLaw.nd rfl (.inl rfl) (pd GSeats r3 (pa_cons (pv 1) (pa_cons pe_int pa_nil))))
    (pss_cons (ps_set (i := 4) scLaw.nd rfl (.inl rfl) (pd GRoll r2 (pa_cons (pv 1) (pa_cons (pd GD r1 (pa_cons (pv 1) (pa_cons pe_int pa_nil))) pa_nil))))
    (pss_cons (ps_set (i := 5) scLaw.nd rfl (.inl rfl) (pd GLimits r2 (pa_cons (pv 1) pa_nil)))
    (pss_cons (ps_set (i := 6) scLaw.nd rfl (.inl rfl) (pd GLeader r2 (pa_cons (pv 1) pa_nil)))
    (pss_cons (ps_set (i := 7) scLaw.nd rfl (.inl rfl) (pd GChs r5 (pa_cons (pv 2) pa_nil)))
    (pss_cons (ps_set (i := 8) scLaw.nd rfl (.inl rfl) (pd GNos r5 (pa_cons (pv 2) pa_nil)))
    (pss_cons (ps_set (i := 9) scLaw.nd rfl (.inl rfl) (pd GRule hr (pa_cons (pv 1) (pa_cons (pe_lst (pa_cons pe_int (pa_cons pe_int (pa_cons pe_int (pa_cons pe_int pa_nil))))) (pa_cons (pe_lst (pa_cons pe_str (pa_cons pe_str (pa_cons pe_str (pa_cons pe_str (pa_cons pe_str (pa_cons pe_str pa_nil))))))) (pa_cons pe_int pa_nil))))))
    (pss_cons (ps_for PassesOwn.never rfl (pi_list (pe_lst (pa_cons (pv 9) (pa_cons (pv 2) pa_nil)))) (pg_name (i := 10) scLaw.nd rfl (.inl rfl))
      (pss_one (ps_if (pt_not (pt_val (pd GSame r3 (pa_cons (pd GNamed r5 (pa_cons (pv 10) pa_nil)) (pa_cons (pe_tup (pa_cons (pe_callTy call_tuple_of rfl M.tuple b_tuple (pa_cons (pd GChs r5 (pa_cons (pv 10) pa_nil)) pa_nil)) (pa_cons (pe_callTy call_tuple_of rfl M.tuple b_tuple (pa_cons (pd GNos r5 (pa_cons (pv 10) pa_nil)) pa_nil)) pa_nil))) pa_nil))))) (pss_one (ps_ret pe_bl)) pss_nil)))
    (pss_cons (ps_set (i := 11) scLaw.nd rfl (.inl rfl) (pe_lst pa_nil))
    (pss_cons (ps_set (i := 12) scLaw.nd rfl (.inl rfl) (pe_lst pa_nil))
    (pss_cons (ps_for PassesOwn.never rfl (pi_range1 rfl M.range (pa_cons (pe_callB call_len_seq rfl M.len b_len (pa_cons (pv 3) pa_nil)) pa_nil)) (pg_name (i := 13) scLaw.nd rfl (.inl rfl))
      (pss_cons (ps_expr (pe_bm PySem.F.plainAttrs_list PySem.F.slot_list_append PySem.F.type_list_append mt_append (pv 12) (pa_cons (pd GHolders r2 (pa_cons (pv 1) (pa_cons pe_int pa_nil))) pa_nil)))
      (pss_one (ps_if (pt_cmpR op_in_seq (pv 13) (pv 7) rfl)
        (pss_cons (ps_asg (pe_ix ix_tup (pv 3) (pv 13) (fun _ _ => rfl)) (pg_sub (pv 12) (pv 13) set_list))
        (pss_one (ps_set (i := 11) scLaw.nd rfl (.inl rfl) (pe_op op_cat (pv 11) (pe_callTy call_list_of rfl M.list b_list (pa_cons (pe_ix ix_tup (pv 3) (pv 13) (fun _ _ => rfl)) pa_nil)))))) pss_nil))))
    (pss_cons (ps_set (i := 9) scLaw.nd rfl (.inl rfl) (pd GLeader r2 (pa_cons (pv 1) pa_nil)))
    (C8.pss_cut (ps_if (pt_cmpR (op_inD hu) (pe_tup (pa_cons pe_str pa_nil)) (pd GLeaves r4 (pa_cons (pv 2) pa_nil)) rfl)
        (pss_cons (ps_set (i := 9) scLaw.nd rfl (.inl rfl) (pv 6))
        (pss_one (ps_expr (pe_bm PySem.F.plainAttrs_list PySem.F.slot_list_append PySem.F.type_list_append mt_append (pv 11) (pa_cons (pv 6) pa_nil))))) pss_nil)
    (pss_cons (ps_set (i := 14) scLaw.nd rfl (.inl rfl) (pe_callTy (call_list_signs rfl) rfl M.list b_list (pa_cons (pd GRoll r2 (pa_cons (pv 1) (pa_cons pe_int pa_nil))) pa_nil)))
    (pss_cons (ps_for PassesOwn.never rfl (pi_range1 rfl M.range (pa_cons pe_int pa_nil)) (pg_name (i := 15) scLaw.nd rfl (.inl rfl))
      (pss_one (ps_if (pt_cmpR op_in_seq (pv 15) (pv 11) rfl)
        (pss_one (ps_asg (pe_ix ix_str (pe_op op_add_str (pv 4) (pe_op op_repS pe_str pe_int)) (pv 15) (fun _ _ => rfl)) (pg_sub (pv 14) (pv 15) set_list))) pss_nil)))
    (pss_cons (ps_set (i := 16) scLaw.nd rfl (.inl rfl) (pd GLPass r6 (pa_cons (pv 2) (pa_cons (pv 3) (pa_cons (pv 4) (pa_cons (pv 5) (pa_cons (pv 6) pa_nil)))))))
    (pss_cons (ps_if (pt_not (pt_val (pd GSame r3 (pa_cons (pe_callN D.pass r6 rfl D.gmP D.kpP D.kbP pass0 (pa_cons (pv 2) (pa_cons (pv 3) (pa_cons (pv 4) pa_nil))) (pk_cons (pv 5) (pk_cons (pv 6) pk_nil))) (pa_cons (pv 16) pa_nil))))) (pss_one (ps_ret pe_bl)) pss_nil)
    (pss_cons (ps_set (i := 17) scLaw.nd rfl (.inl rfl) (pd GOther r2 (pa_cons (pv 1) (pa_cons (pv 5) (pa_cons (pv 8) pa_nil)))))
    (pss_one (ps_ret (pd GSame r3 (pa_cons (pe_callN D.pass r6 rfl D.gmP D.kpP D.kbP pass0 (pa_cons (pv 2) (pa_cons (pe_callTy call_tuple_of rfl M.tuple b_tuple (pa_cons (pv 12) pa_nil)) (pa_cons (pe_join pe_str (pv 14)) pa_nil))) (pk_cons (pv 17) (pk_cons (pv 9) pk_nil))) (pa_cons (pv 16) pa_nil)))))))))))))))))))))))), ?_⟩
  -- the first legislature
  refine ⟨_, rfl, a, script, rfl, hS, fun t l H1 s1 T1 => ?_⟩
  refine ⟨_, rfl, (by show 5 ≤ sizeLine; decide), fun C0 nC0 => ⟨(by show 6 ≤ sizeLine; decide), fun D0 nD0 => ?_⟩⟩
  refine ⟨t, l, C0, D0, [0, 0, 1, 2, 3], kinds6, 4, rfl, (T1.fresh nC0 _).fresh nD0 _, src_of (cs := [0, 0, 1, 2, 3]) T1 nC0 nD0 ⟨by decide, by decide⟩ (by decide), by decide, by decide, fun vr r H2 k2 T2 hR ok dp => ?_⟩
  have dp3 : r.depth ≤ 3 := by omega
  refine ⟨_, rfl, t, l, 4, rfl, T2, by decide, by decide, fun vS H3 S k3 T3 hS3 okS => ?_⟩
  refine ⟨_, rfl, _, rfl, t, l, 13, rfl, T3, by decide, fun n H4 k4 T4 n0 n1 => ⟨t, l, n, rfl, T4, n0, by have := n1 (by decide); omega, fun z H5 k5 T5 rz zl => ?_⟩⟩
  refine ⟨_, rfl, t, l, rfl, T5, fun vL H6 L k6 T6 hL okL => ?_⟩
  refine ⟨_, rfl, t, l, rfl, T6, fun m H7 k7 T7 pm => ?_⟩
  have U3 := T2.tups k3
  have U5 := (T3.tups k4).trans (T4.tups k5)
  have U7 := (T5.tups k6).trans (T6.tups k7)
  refine ⟨_, rfl, r, vr, rfl, ((hR.up U3).up U5).up U7, ok, dp3, fun C H8 cs s8 nC eC aC lC => ?_⟩
  refine ⟨_, rfl, r, vr, rfl, (((hR.up U3).up U5).up U7).up (Tups.same s8), ok, dp3, fun N H9 ns s9 nN eN aN lN => ?_⟩
  have s89 := s8.trans s9
  have ev9 : Ev H9 t l C N r vr vS vL S z L m cs ns := ⟨T7.same s89, (((hR.up U3).up U5).up U7).up (Tups.same s89), ok, dp3, ((hS3.up U5).up U7).up (Tups.same s89), okS, rz, (hL.up (T6.tups k7)).up (Tups.same s89), okL, pm,
    s9 _ _ eC, (T7.ne nC).1, eN, ((T7.same s8).ne nN).1, aC, aN⟩
  clear eC eN nC nN s89 s8 s9 U7 U5 U3
  refine ⟨_, rfl, (by show 4 ≤ sizeLine; decide), fun C1 nC1 => ⟨(by show 6 ≤ sizeLine; decide), fun D1 nD1 => ?_⟩⟩
  refine ⟨t, l, C1, D1, [0, 1, 2, 3], kinds6, 4, rfl, (ev9.tp.fresh nC1 _).fresh nD1 _, src_of (cs := [0, 1, 2, 3]) ev9.tp nC1 nD1 ⟨by decide, by decide⟩ (by decide), by decide, by decide, fun v2 r2 H10 k10 T10 hR2 ok2 dp2 => ?_⟩
  have dp23 : r2.depth ≤ 3 := by omega
  have ev10 := ((ev9.fresh nC1 (.lst [.int 0, .int 1, .int 2, .int 3])).fresh nD1 _).keep k10 T10
  -- what the two rules name
  refine ⟨_, rfl, _, rfl, (by show 2 ≤ sizeLine; decide), fun p0 n0 => ⟨p0, rfl, ⟨_, SqL.of upd_same⟩, ?_⟩⟩
  have ev11 := ev10.fresh n0 (.lst [v2, vr])
  have hR3 := hR2.up (Tups.same (same_new n0 (.lst [v2, vr])))
  have e11 : (upd H10 p0 (.lst [v2, vr])) p0 = some (.lst [v2, vr]) := upd_same
  generalize upd H10 p0 (.lst [v2, vr]) = H11 at ev11 hR3 e11 ⊢
  have two : AllP (fun e r' => IsRule H11 r' e ∧ r'.Ok ∧ r'.depth ≤ 3) [v2, vr] [r2, r] := two_get ⟨hR3, ok2, dp23⟩ ⟨ev11.hr, ok, dp3⟩
  refine for_list (K := K) (a := p0) (xs := [v2, vr]) (fun i σ H' => ∃ y : Option V, σ = [some (.ref a), some (.ref t), some vr, some vS, some (.str z), some vL, some (hV m), some (.ref C), some (.ref N), some v2, y, none, none, none, none, none, none, none] ∧ Same H11 H')
    ⟨none, rfl, Same.refl _⟩ (fun i σ H' _ ⟨_, _, s⟩ => SqL.of (s _ _ e11)) ?_ ?_
  · rintro i e σ H12 he ⟨y, rfl, s12⟩
    obtain ⟨r', hr', hR', ok', dp'⟩ := two.get he
    have hA := hR'.up (Tups.same s12)
    refine ⟨_, rfl, r', e, rfl, hA, ok', dp', fun p a1 b1 H13 cs1 ns1 s13 eP eA eB aC1 aN1 => ?_⟩
    have hB := hA.up (Tups.same s13)
    refine ⟨_, rfl, r', e, rfl, hB, ok', dp', fun p2 H14 cs2 s14 _ e14 aC2 _ => ⟨p2, _, rfl, .inl ⟨SqL.of e14, fun q1 nq1 => ?_⟩⟩⟩
    have s15 := s14.trans (same_new nq1 (.tup (cs2.map V.int)))
    refine ⟨_, rfl, r', e, rfl, hB.up (Tups.same s15), ok', dp', fun p3 H16 ns2 s16 _ e16 aN2 _ => ⟨p3, _, rfl, .inl ⟨SqL.of e16, fun q2 nq2 => ⟨(by show 2 ≤ sizeLine; decide), fun pt npt => ?_⟩⟩⟩⟩
    have s17 := same_new nq2 (.tup (ns2.map V.int))
    have s18 := same_new npt (.tup [.ref q1, .ref q2])
    have c1 := aC1.uniq aC2
    have c2 := aN1.uniq aN2
    subst c1
    subst c2
    have sA := s15.trans (s16.trans (s17.trans s18))
    have sB := s16.trans (s17.trans s18)
    have hlc : (cs1.map V.int).length ≤ 1000 := by rw [List.length_map]; omega
    have hln : (ns1.map V.int).length ≤ 1000 := by rw [List.length_map]; omega
    refine ⟨.ref p, .ref pt, 2, rfl, by decide, ⟨p, pt, _, _, rfl, rfl, sA _ _ eP, upd_same, by show 2 ≤ 1000; decide,
      two_get ⟨a1, q1, _, _, rfl, rfl, sA _ _ eA, sB _ _ upd_same, hlc, eqs_ints _ _⟩ ⟨b1, q2, _, _, rfl, rfl, sA _ _ eB, s18 _ _ upd_same, hln, eqs_ints _ _⟩⟩, _, rfl, ifN (by decide) ⟨_, rfl, s12.trans (s13.trans sA)⟩⟩
  rintro σ H12 ⟨y10, rfl, s12⟩
  have ev12 := ev11.same s12
  clear two e11 hR3 ev11 ev10 ev9 s12
  -- the second legislature's chambers
  refine ⟨Nat.zero_le _, fun kp0 nkp => ⟨Nat.zero_le _, fun Ot nOt => ?_⟩⟩
  have oK := ev12.own nkp
  have ev13a := ev12.fresh nkp (.lst [])
  have oO := ev13a.own nOt
  have nKO : kp0 ≠ Ot := ne_of_none upd_same nOt
  have ev13 := ev13a.fresh nOt (.lst [])
  have md13 : Mid (upd (upd H12 kp0 (.lst [])) Ot (.lst [])) t l C N Ot kp0 S cs 0 0 [] [] [] := ⟨upd_same, AllP.nil, rfl, (fun hs h => by cases h), by rw [upd_ne nKO]; exact upd_same, oK, nKO, Nat.zero_le _, fun j h => absurd h (by omega)⟩
  obtain ⟨sa, svs, eS, hSA, alS⟩ := ev13.hs
  have lS := alS.1
  have lS4 := okS.1
  subst eS
  refine ⟨_, rfl, sa, _, rfl, .inr (SqT.of hSA), _, rfl, by omega, by omega, ?_⟩
  refine for_range (lo := 0) (n := ((svs.length : Nat) : Int).toNat) (fun i σ H' => ∃ (y13 : Option V) (kp : Addr) (kv : List (Option Int)) (vs : List V) (O : List Hold), σ = [some (.ref a), some (.ref t), some vr, some (.ref sa), some (.str z), some vL, some (hV m), some (.ref C), some (.ref N), some v2, y10, some (.ref kp), some (.ref Ot), y13, none, none, none, none] ∧
      Ev H' t l C N r vr (.ref sa) vL S z L m cs ns ∧ Mid H' t l C N Ot kp S cs i 0 vs O kv)
    ⟨none, kp0, [], [], [], rfl, ev13, md13⟩ ?_ ?_
  · rintro i σ Ha hi ⟨y13, kp, kv, vs, O, rfl, ev, md⟩
    have hiS : i < S.length := by omega
    rw [Int.zero_add]
    refine ⟨_, rfl, .inl ⟨rfl, _, SqL.of md.hO⟩, _, rfl, t, l, 12, rfl, ev.tp, by decide, by decide, fun p Hb hs kb Tb eb okh => ?_⟩
    have evb := ev.keep kb Tb
    have mdb := md.keep oO kb (ev.tp.tups kb)
    have lvs := mdb.al.1
    have lO := mdb.len
    refine ⟨Ot, _, _, rfl, rfl, mdb.hO, small1000 (by omega), ?_⟩
    have evc := evb.put mdb.hO oO (.lst (vs ++ [.ref p]))
    have Uc := Tups.lst mdb.hO (.lst (vs ++ [.ref p]))
    have alc := (mdb.al.mono fun _ _ h => h.up Uc).snoc (⟨p, rfl, Uc _ _ eb⟩ : IsHold (upd Hb Ot (.lst (vs ++ [.ref p]))) (.ref p) hs)
    have hKc : (upd Hb Ot (.lst (vs ++ [.ref p]))) kp = some (.lst (kv.map hV)) := by rw [upd_ne mdb.ne]; exact mdb.hK
    have hOc : (upd Hb Ot (.lst (vs ++ [.ref p]))) Ot = some (.lst (vs ++ [.ref p])) := upd_same
    generalize upd Hb Ot (.lst (vs ++ [.ref p])) = Hc at evc Uc alc hKc hOc ⊢
    have okc : ∀ g ∈ O ++ [hs], HoldOk g := fun g hg => by
      rcases List.mem_append.mp hg with hg | hg
      · exact mdb.oks g hg
      · rw [List.mem_singleton.mp hg]
        exact okh
    have lenc : (O ++ [hs]).length = i + 1 := by rw [List.length_append, lO]; rfl
    have old : ∀ j : Nat, j < i → (O ++ [hs])[j]? = O[j]? := fun j hj => List.getElem?_append_left (by omega)
    refine ⟨_, rfl, _, rfl, C, _, rfl, .inl (SqL.of evc.hC), rfl, flat_ints cs, _, rfl, ?_⟩
    refine ite2 (fun g => ?_) (fun g => ?_)
    · obtain ⟨sa2, sv2, e2, hSc, alc2⟩ := evc.hs
      cases e2
      have l2 := alc2.1
      obtain ⟨b, ebb, hB⟩ := alc2.2 i sv2[i] S[i] (List.getElem?_eq_getElem (by omega)) (List.getElem?_eq_getElem hiS)
      have hat : atI sv2 (i : Int) = some (.ref b) := atI_nat (by rw [← ebb]; exact List.getElem?_eq_getElem (by omega))
      have eSi : S[i]? = some S[i] := List.getElem?_eq_getElem hiS
      have okSi := okS.2 _ (List.getElem_mem hiS)
      generalize S[i] = hs' at hB eSi okSi
      have ixi : ixN (vs ++ [V.ref p]).length (i : Int) = some i := by
        unfold ixN
        have e : (vs ++ [V.ref p]).length = i + 1 := by rw [List.length_append, lvs, lO]; rfl
        rw [e, if_pos (by omega), if_pos (by omega), Int.toNat_natCast]
      refine ⟨_, rfl, _, rfl, sa, _, _, .ref b, rfl, rfl, SqT.of hSc, hat, _, rfl, _, rfl, Ot, _, _, i, rfl, rfl, hOc, ixi, ?_⟩
      have evd := evc.put hOc oO (.lst ((vs ++ [V.ref p]).set i (V.ref b)))
      have Ud := Tups.lst hOc (.lst ((vs ++ [V.ref p]).set i (V.ref b)))
      have hSd := Ud _ _ hSc
      have hBd := Ud _ _ hB
      have hKd : (upd Hc Ot (.lst ((vs ++ [V.ref p]).set i (V.ref b)))) kp = some (.lst (kv.map hV)) := by rw [upd_ne mdb.ne]; exact hKc
      have hOd : (upd Hc Ot (.lst ((vs ++ [V.ref p]).set i (V.ref b)))) Ot = some (.lst ((vs ++ [V.ref p]).set i (V.ref b))) := upd_same
      have ald : AllP (IsHold (upd Hc Ot (.lst ((vs ++ [V.ref p]).set i (V.ref b))))) ((vs ++ [V.ref p]).set i (V.ref b)) ((O ++ [hs]).set i hs') := (alc.mono fun _ _ h => h.up Ud).set ⟨b, rfl, hBd⟩ i
      generalize upd Hc Ot (.lst ((vs ++ [V.ref p]).set i (V.ref b))) = Hd at evd Ud hSd hBd hKd hOd ald ⊢
      refine ⟨_, rfl, _, rfl, _, rfl, sa, _, _, .ref b, rfl, rfl, SqT.of hSd, hat, b, _, rfl, .inr (SqT.of hBd), fun l1 nl1 => ?_⟩
      have se := same_new nl1 (.lst (hs'.map hV))
      have lhs := okSi.1
      have lkv := mdb.kl
      refine ⟨kp, l1, _, _, rfl, rfl, se _ _ hKd, upd_same, ?_, fun kp2 nk2 => ?_⟩
      · rw [List.length_map, List.length_map]
        exact small (by omega)
      have sf := se.trans (same_new nk2 (.lst (kv.map hV ++ hs'.map hV)))
      have eve := evd.same se
      refine ⟨_, kp2, kv ++ hs', _, (O ++ [hs]).set i hs', rfl, evd.same sf, ⟨sf _ _ hOd, ald.mono fun _ _ h => h.up (Tups.same sf), by rw [List.length_set, lenc], fun g hg => ?_, ?_, eve.own nk2, (ne_of_none (se _ _ hOd) nk2).symm, ?_, fun j hj hin => ?_⟩⟩
      · rcases List.mem_or_eq_of_mem_set hg with h | h
        · exact okc g h
        · rw [h]
          exact okSi
      · rw [upd_same, List.map_append]
      · rw [List.length_append]
        omega
      · by_cases hji : j < i
        · obtain ⟨e1, e2⟩ := mdb.kept j hji hin
          rw [List.getElem?_set_ne (by omega), old j hji]
          exact ⟨e1, fun g hg x hx => List.mem_append_left _ (e2 g hg x hx)⟩
        · have ej : j = i := by omega
          subst ej
          rw [List.getElem?_set_self (by omega), eSi]
          refine ⟨rfl, fun g hg x hx => ?_⟩
          cases hg
          exact List.mem_append_right _ hx
    · refine ⟨_, kp, kv, _, O ++ [hs], rfl, evc, ⟨hOc, alc, lenc, okc, hKc, mdb.own, mdb.ne, by have := mdb.kl; omega, fun j hj hin => ?_⟩⟩
      by_cases hji : j < i
      · rw [old j hji]
        exact mdb.kept j hji hin
      · have ej : j = i := by omega
        subst ej
        refine absurd ?_ g
        show inV (V.int (j : Int)) (cs.map V.int) = true
        rw [in_ints]
        exact decide_eq_true hin
  rintro σ Ha ⟨y13, kp, kv, vs, O, rfl, ev, md⟩
  have ei : ((svs.length : Nat) : Int).toNat = S.length := by omega
  rw [ei] at md
  clear ev13 ev13a md13 hSA alS
  -- the second premier
  refine ⟨_, rfl, t, l, rfl, ev.tp, fun m2 Hb kb Tb pm2 => ?_⟩
  have evb := ev.keep kb Tb
  have mdb := md.keep oO kb (ev.tp.tups kb)
  refine ⟨fun σ H' => ∃ (m3 : Option Int) (kv' : List (Option Int)), σ = [some (.ref a), some (.ref t), some vr, some (.ref sa), some (.str z), some vL, some (hV m), some (.ref C), some (.ref N), some (hV m3), y10, some (.ref kp), some (.ref Ot), y13, none, none, none, none] ∧
      Ev H' t l C N r vr (.ref sa) vL S z L m cs ns ∧ Mid H' t l C N Ot kp S cs S.length 1 vs O kv' ∧ PremOk m3 ∧ (r.prem = true → m3 = m ∧ m ∈ kv'), ?_, ?_⟩
  · refine ⟨(by show 1 ≤ sizeLine; decide), fun p np => ?_⟩
    have evc := evb.fresh np (.tup [.str "premier"])
    have mdc := mdb.same (same_new np (.tup [.str "premier"]))
    refine ⟨_, rfl, r, vr, rfl, evc.hr, ok, by omega, dp3, fun p2 Hd ws sd _ ed ald => ?_⟩
    have evd := evc.same sd
    have mdd := mdc.same sd
    refine ⟨.tuple [.str "premier"], r.leaves.map ruD, .tup (SqT.of (sd _ _ upd_same)) (.cons (.str _) .nil), .lst (SqL.of ed) (dp_all ald (leaves_flat r)), prem_shaped, ruDs_shaped _, _, rfl, ?_⟩
    have ep := (any_prem r.leaves).trans (leaves_prem r)
    refine ite2 (fun g => ?_) (fun g => ?_)
    · have lkv := mdd.kl
      refine ⟨_, rfl, _, rfl, .inl ⟨rfl, _, SqL.of mdd.hK⟩, _, rfl, kp, _, _, rfl, rfl, mdd.hK, ?_, ?_⟩
      · rw [List.length_map]
        exact small1000 (by omega)
      refine ⟨m, kv ++ [m], rfl, evd.put mdd.hK mdd.own _, ⟨?_, mdd.al.mono fun _ _ h => h.up (Tups.lst mdd.hK _), mdd.len, mdd.oks, ?_, mdd.own, mdd.ne, ?_, fun j hj hin => ?_⟩, pm, fun _ => ⟨rfl, List.mem_append_right _ (List.mem_singleton.mpr rfl)⟩⟩
      · rw [upd_ne mdd.ne.symm]
        exact mdd.hO
      · rw [upd_same, List.map_append]
        rfl
      · rw [List.length_append, List.length_singleton]
        omega
      · obtain ⟨e1, e2⟩ := mdd.kept j hj hin
        exact ⟨e1, fun g hg x hx => List.mem_append_left _ (e2 g hg x hx)⟩
    · refine ⟨m2, kv, rfl, evd, ⟨mdd.hO, mdd.al, mdd.len, mdd.oks, mdd.hK, mdd.own, mdd.ne, by have := mdd.kl; omega, mdd.kept⟩, pm2, fun hp => absurd (ep.trans hp) g⟩
  rintro σ Hc ⟨m3, kw, rfl, evc, mdc, pm3, hprem⟩
  clear evb mdb ev md kb Tb
  -- the second roll call
  refine ⟨_, rfl, t, l, 12, rfl, evc.tp, by decide, by decide, fun z2 Hd kd Td rz2 zl2 => ⟨z2, rfl, by have := rz2.1; exact small (by omega), fun Vt nVt => ?_⟩⟩
  have evd := evc.keep kd Td
  have mdd := mdc.keep oO kd (evc.tp.tups kd)
  have oV := evd.own nVt
  have nVO : Vt ≠ Ot := (ne_of_none mdd.hO nVt).symm
  have nVK : Vt ≠ kp := (ne_of_none mdd.hK nVt).symm
  refine ⟨12, rfl, by decide, by decide, ?_⟩
  refine for_range (lo := 0) (n := (12 : Int).toNat) (fun i σ H' => ∃ (y15 : Option V) (vc : List Nat), σ = [some (.ref a), some (.ref t), some vr, some (.ref sa), some (.str z), some vL, some (hV m), some (.ref C), some (.ref N), some (hV m3), y10, some (.ref kp), some (.ref Ot), y13, some (.ref Vt), y15, none, none] ∧
      Ev H' t l C N r vr (.ref sa) vL S z L m cs ns ∧ Mid H' t l C N Ot kp S cs S.length 1 vs O kw ∧ H' Vt = some (.lst ((vc.map sgn).map V.str)) ∧ vc.length = 12 ∧ ∀ j : Nat, j < i → some (j : Int) ∈ kw → vc[j]? = some (voteC z (j : Int)))
    ⟨none, z2.cps.toList, rfl, evd.fresh nVt _, mdd.same (same_new nVt _), upd_same, by rw [Array.length_toList, zl2]; rfl, fun j h => absurd h (by omega)⟩ ?_ ?_
  · rintro i σ He hi ⟨y15, vc, rfl, eve, mde, hV', lvc, hvc⟩
    have hi12 : i < 12 := hi
    rw [Int.zero_add]
    refine ⟨_, rfl, _, rfl, kp, _, rfl, .inl (SqL.of mde.hK), rfl, flat_holds kw, _, rfl, ?_⟩
    refine ite2 (fun g => ?_) (fun g => ?_)
    · have lz : (z ++ Txt.mul ("-" : Str) 12).length ≤ sizeLine := by
        rw [Str.length_append, dashes_len]
        have h1 : z.length ≤ 12 := rz.1
        exact small (by omega)
      have ixi : ixN ((vc.map sgn).map V.str).length (i : Int) = some i := by
        unfold ixN
        rw [List.length_map, List.length_map, lvc, if_pos (by omega), if_pos (by omega), Int.toNat_natCast]
      refine ⟨_, rfl, _, _, rfl, rfl, mul12, z, _, rfl, rfl, by rw [← Str.length_append]; exact lz, _, rfl, _, _, _, rfl, rfl, lz, at_long hi12, _, rfl, _, rfl, Vt, _, _, i, rfl, rfl, hV', ixi, ?_⟩
      refine ⟨_, vc.set i (voteC z (i : Int)), rfl, eve.put hV' oV _, mde.put hV' nVO nVK _, ?_, by rw [List.length_set]; exact lvc, fun j hj hin => ?_⟩
      · rw [upd_same, List.map_set, List.map_set]
      · by_cases hji : j = i
        · subst hji
          exact List.getElem?_set_self (by omega)
        · rw [List.getElem?_set_ne (Ne.symm hji)]
          exact hvc j (by omega) hin
    · refine ⟨_, vc, rfl, eve, mde, hV', lvc, fun j hj hin => ?_⟩
      by_cases hji : j = i
      · subst hji
        refine absurd ?_ g
        show inV (V.int (j : Int)) (kw.map hV) = true
        rw [in_holds]
        exact decide_eq_true hin
      · exact hvc j (by omega) hin
  rintro σ He ⟨y15, vc, rfl, eve, mde, hVt, lvc, hvc⟩
  clear evd mdd evc mdc kd Td
  -- what is due, and the first legislature
  refine ⟨_, rfl, _, rfl, _, rfl, _, rfl, _, rfl, r, vr, .ref sa, vL, S, z, L, m, rfl, eve.hr, ok, by omega, eve.hs, okS, rz, eve.hl, pm, fun Hf sf => ?_⟩
  have evf := eve.same sf
  have mdf := mde.same sf
  refine ⟨_, rfl, _, rfl, _, rfl, _, rfl, _, rfl, rfl, rfl, r, vr, .ref sa, vL, S, z, L, m, rfl, evf.hr, ok, by omega, evf.hs, okS, rz.1, evf.hl, pm, fun Hg sg => ?_⟩
  have evg := evf.same sg
  have mdg := mdf.same sg
  refine ⟨_, rfl, _, _, 0, rfl, by decide, .inr ⟨_, rfl, rfl⟩, _, rfl, ifN (by decide) ?_⟩
  -- the second one
  refine ⟨_, rfl, _, rfl, _, rfl, t, l, N, vL, L, ns, rfl, evg.tp, evg.hl, okL, evg.hN, evg.nN, fun k hk => nos_pos ok k ((aN.2 k).mp hk), fun u Hh O2 kh Th hu2 hO2 => ?_⟩
  have evh := evg.keep kh Th
  have mdh := mdg.keep oO kh (evg.tp.tups kh)
  have hVh := kh _ _ oV.1.1 (sg _ _ (sf _ _ hVt))
  refine ⟨_, rfl, _, rfl, Ot, _, rfl, .inl ⟨SqL.of mdh.hO, fun po npo => ?_⟩⟩
  have so := same_new npo (.tup vs)
  have evo := evh.same so
  refine ⟨⟨_, rfl⟩, _, rfl, _, Vt, vc.map sgn, rfl, rfl, .inl (SqL.of (so _ _ hVh)), ?_, ?_⟩
  · rw [sum_signs, List.length_map]
    show vc.length + vc.length * 0 ≤ 16777216
    omega
  have ej := join_signs vc
  have es : (Txt.join ("" : Str) (vc.map sgn)).cps.size = vc.length := by rw [← Array.length_toList, ej]
  refine ⟨_, rfl, _, rfl, rfl, rfl, r, vr, .ref po, u, O, _, O2, m3, rfl, evo.hr, ok, by omega, ⟨po, vs, rfl, upd_same, mdh.al.mono fun _ _ h => h.up (Tups.same so)⟩, ⟨by rw [mdh.len]; exact lS4, mdh.oks⟩, (by rw [es, lvc]; exact Nat.le_refl 12), hu2.up (Tups.same so), pm3, fun Hi si => ?_⟩
  refine ⟨_, rfl, _, _, 0, rfl, by decide, .inr ⟨_, rfl, ?_⟩, q Hi⟩
  exact congrArg V.bl (two_leg ok okS pm aC aN mdh.len (fun j hj hin => mdh.kept j hj hin) ej lvc (fun j hj hin => hvc j hj hin) hO2 hprem).symm
end
end Gz

namespace Gz
open PySem PySem.Spec PyProof.Rows L2
/-! ### where the defs stand behind the top -/
abbrev fnS (x : Str) (st : Stmt) (kV doc pm : Value) (an : Option Addr) (cd ct : Value) : FuncData := PySem.W.fnOf x x (defArgs st) (defBody st) (defScope st) .none kV doc pm an cd ct
structure Stands (K : PySem.W.Frag) (x : Str) (st : Stmt) (f : Addr) (fd : FuncData) : Prop where
  gl : PySem.W.nsIn K mainGlobals x = some (some (.ref f))
  fn : Fun K x x st f fd
theorem stands_mk {K : PySem.W.Frag} {x : Str} {st : Stmt} {f : Addr} {oc kV dc pm cd ct : Value} {od an : Option Addr} {sl : Array (Option Value)} (a : PySem.W.nsIn K mainGlobals x = some (some (.ref f)))
    (l : K.lookup f = some ⟨oc, od, .func (fnS x st kV dc pm an cd ct), sl⟩) (c : PySem.W.codeIn K cd x = true) (k : PySem.W.keepIn K (.ref f) = true) : ∃ f fd, Stands K x st f fd := ⟨f, _, a, fun_mk l c k⟩
theorem Stands.at {K : PySem.W.Frag} {mg : Str → Option Value} {h : Heap} {x : Str} {st : Stmt} {ps : List Str} {f : Addr} {fd : FuncData} (X : K.In h) (G : h.Ns mainGlobals mg) (s : Stands K x st f fd)
    (b : ∀ (kV doc pm : Value) (an : Option Addr) (cdv ct : Value) (us : List Value), us.length = ps.length → bindArgs (fnS x st kV doc pm an cdv ct) ⟨us, []⟩ = pure (ps.zip us)) : At K mg x st ps f fd := ⟨s.fn, PySem.W.mg_of X G s.gl, s.fn.binds b⟩
/-- all that the top leaves -/
structure Top (K : PySem.W.Frag) : Prop where
  d1 : ∃ f fd, Stands K "vote_of" sVote f fd
  d2 : ∃ f fd, Stands K "tally" sTally f fd
  d4 : ∃ f fd, Stands K "threshold_value" sThr f fd
  d5 : ∃ f fd, Stands K "denominator_value" sDen f fd
  d6 : ∃ f fd, Stands K "passes_by_tally" sBy f fd
  d7 : ∃ f fd, Stands K "passes" sPass f fd
  d8 : ∃ f fd, Stands K "simple_rules" sSims f fd
  d9 : ∃ f fd, Stands K "named" sNamed f fd
  d11 : ∃ f fd, Stands K "_law_tape" sTape f fd
  d12 : ∃ f fd, Stands K "_law_draw" sDraw f fd
  d13 : ∃ f fd, Stands K "_law_same" sSame f fd
  d14 : ∃ f fd, Stands K "_law_holders" sHolders f fd
  d15 : ∃ f fd, Stands K "_law_seats" sSeats f fd
  d16 : ∃ f fd, Stands K "_law_roll" sRoll f fd
  d17 : ∃ f fd, Stands K "_law_tally" sLTally f fd
  d18 : ∃ f fd, Stands K "_law_limits" sLimits f fd
  d19 : ∃ f fd, Stands K "_law_leader" sLeader f fd
  d20 : ∃ f fd, Stands K "_law_threshold" sThreshold f fd
  d21 : ∃ f fd, Stands K "_law_simple" sSimple f fd
  d22 : ∃ f fd, Stands K "_law_rule" sRule f fd
  d23 : ∃ f fd, Stands K "_law_limit" sLimit f fd
  d24 : ∃ f fd, Stands K "_law_by_counts" sByC f fd
  d25 : ∃ f fd, Stands K "_law_passes" sLPass f fd
  d26 : ∃ f fd, Stands K "_law_leaves" sLeaves f fd
  d27 : ∃ f fd, Stands K "_law_chambers_of" sChs f fd
  d28 : ∃ f fd, Stands K "_law_numbers_of" sNos f fd
  d29 : ∃ f fd, Stands K "_law_other_limits" sOther f fd
  d30 : ∃ f fd, Stands K "law" sLaw f fd
  z_len : PySem.W.nsIn K mainGlobals "len" = some none
  z_isinstance : PySem.W.nsIn K mainGlobals "isinstance" = some none
  z_int : PySem.W.nsIn K mainGlobals "int" = some none
  z_tuple : PySem.W.nsIn K mainGlobals "tuple" = some none
  z_sorted : PySem.W.nsIn K mainGlobals "sorted" = some none
  z_set : PySem.W.nsIn K mainGlobals "set" = some none
  z_all : PySem.W.nsIn K mainGlobals "all" = some none
  z_any : PySem.W.nsIn K mainGlobals "any" = some none
  z_list : PySem.W.nsIn K mainGlobals "list" = some none
  z_abs : PySem.W.nsIn K mainGlobals "abs" = some none
  z_max : PySem.W.nsIn K mainGlobals "max" = some none
  z_range : PySem.W.nsIn K mainGlobals "range" = some none
  z_bool : PySem.W.nsIn K mainGlobals "bool" = some none
  z_str : PySem.W.nsIn K mainGlobals "str" = some none
section
variable {P : Program} {w : World} {K : PySem.W.Frag} {mg : Str → Option Value} {h base : Heap}
theorem Top.txt (T : Top K) (X : K.In h) (G : h.Ns mainGlobals mg) : Txt mg :=
  ⟨PySem.W.mg_none_of X G T.z_len, PySem.W.mg_none_of X G T.z_isinstance, PySem.W.mg_none_of X G T.z_int, PySem.W.mg_none_of X G T.z_tuple, PySem.W.mg_none_of X G T.z_sorted, PySem.W.mg_none_of X G T.z_set, PySem.W.mg_none_of X G T.z_all, PySem.W.mg_none_of X G T.z_any, PySem.W.mg_none_of X G T.z_list, PySem.W.mg_none_of X G T.z_abs, PySem.W.mg_none_of X G T.z_max, PySem.W.mg_none_of X G T.z_range, PySem.W.mg_none_of X G T.z_bool, PySem.W.mg_none_of X G T.z_str⟩
theorem all_defs (T : Top K) (X : K.In h) (G : h.Ns mainGlobals mg) : ∃ fP fdP, Defs P w K mg base fP fdP := by
  have M := T.txt X G
  obtain ⟨_, _, S1⟩ := T.d1
  have A1 : At K mg "vote_of" sVote ["roll_call", "member"] _ _ := S1.at X G fun _ _ _ _ _ _ us hl => match us, hl with | [_, _], _ => rfl
  obtain ⟨_, _, S2⟩ := T.d2
  have A2 : At K mg "tally" sTally ["seats", "roll_call", "chamber"] _ _ := S2.at X G fun _ _ _ _ _ _ us hl => match us, hl with | [_, _, _], _ => rfl
  obtain ⟨_, _, S4⟩ := T.d4
  have A4 : At K mg "threshold_value" sThr ["threshold", "parameters"] _ _ := S4.at X G fun _ _ _ _ _ _ us hl => match us, hl with | [_, _], _ => rfl
  obtain ⟨_, _, S5⟩ := T.d5
  have A5 : At K mg "denominator_value" sDen ["denominator", "counted"] _ _ := S5.at X G fun _ _ _ _ _ _ us hl => match us, hl with | [_, _], _ => rfl
  obtain ⟨_, _, S6⟩ := T.d6
  have A6 : At K mg "passes_by_tally" sBy ["rule", "counted", "parameters"] _ _ := S6.at X G fun _ _ _ _ _ _ us hl => match us, hl with | [_, _, _], _ => rfl
  obtain ⟨_, _, S8⟩ := T.d8
  have A8 : At K mg "simple_rules" sSims ["rule"] _ _ := S8.at X G fun _ _ _ _ _ _ us hl => match us, hl with | [_], _ => rfl
  obtain ⟨_, _, S9⟩ := T.d9
  have A9 : At K mg "named" sNamed ["rule"] _ _ := S9.at X G fun _ _ _ _ _ _ us hl => match us, hl with | [_], _ => rfl
  obtain ⟨_, _, S11⟩ := T.d11
  have A11 : At K mg "_law_tape" sTape ["_law_script"] _ _ := S11.at X G fun _ _ _ _ _ _ us hl => match us, hl with | [_], _ => rfl
  obtain ⟨_, _, S12⟩ := T.d12
  have A12 : At K mg "_law_draw" sDraw ["_law_tape_here", "_law_many"] _ _ := S12.at X G fun _ _ _ _ _ _ us hl => match us, hl with | [_, _], _ => rfl
  obtain ⟨_, _, S13⟩ := T.d13
  have A13 : At K mg "_law_same" sSame ["_law_actual", "_law_expected"] _ _ := S13.at X G fun _ _ _ _ _ _ us hl => match us, hl with | [_, _], _ => rfl
  obtain ⟨_, _, S14⟩ := T.d14
  have A14 : At K mg "_law_holders" sHolders ["_law_tape_here", "_law_top"] _ _ := S14.at X G fun _ _ _ _ _ _ us hl => match us, hl with | [_, _], _ => rfl
  obtain ⟨_, _, S15⟩ := T.d15
  have A15 : At K mg "_law_seats" sSeats ["_law_tape_here", "_law_most"] _ _ := S15.at X G fun _ _ _ _ _ _ us hl => match us, hl with | [_, _], _ => rfl
  obtain ⟨_, _, S16⟩ := T.d16
  have A16 : At K mg "_law_roll" sRoll ["_law_tape_here", "_law_many"] _ _ := S16.at X G fun _ _ _ _ _ _ us hl => match us, hl with | [_, _], _ => rfl
  obtain ⟨_, _, S17⟩ := T.d17
  have A17 : At K mg "_law_tally" sLTally ["_law_seats_here", "_law_roll_here", "_law_chamber"] _ _ := S17.at X G fun _ _ _ _ _ _ us hl => match us, hl with | [_, _, _], _ => rfl
  obtain ⟨_, _, S18⟩ := T.d18
  have A18 : At K mg "_law_limits" sLimits ["_law_tape_here"] _ _ := S18.at X G fun _ _ _ _ _ _ us hl => match us, hl with | [_], _ => rfl
  obtain ⟨_, _, S19⟩ := T.d19
  have A19 : At K mg "_law_leader" sLeader ["_law_tape_here"] _ _ := S19.at X G fun _ _ _ _ _ _ us hl => match us, hl with | [_], _ => rfl
  obtain ⟨_, _, S20⟩ := T.d20
  have A20 : At K mg "_law_threshold" sThreshold ["_law_tape_here"] _ _ := S20.at X G fun _ _ _ _ _ _ us hl => match us, hl with | [_], _ => rfl
  obtain ⟨_, _, S21⟩ := T.d21
  have A21 : At K mg "_law_simple" sSimple ["_law_tape_here", "_law_chambers", "_law_kinds"] _ _ := S21.at X G fun _ _ _ _ _ _ us hl => match us, hl with | [_, _, _], _ => rfl
  obtain ⟨_, _, S22⟩ := T.d22
  have A22 : At K mg "_law_rule" sRule ["_law_tape_here", "_law_chambers", "_law_kinds", "_law_depth"] _ _ := S22.at X G fun _ _ _ _ _ _ us hl => match us, hl with | [_, _, _, _], _ => rfl
  obtain ⟨_, _, S23⟩ := T.d23
  have A23 : At K mg "_law_limit" sLimit ["_law_threshold_here", "_law_limits_here"] _ _ := S23.at X G fun _ _ _ _ _ _ us hl => match us, hl with | [_, _], _ => rfl
  obtain ⟨_, _, S24⟩ := T.d24
  have A24 : At K mg "_law_by_counts" sByC ["_law_rule_here", "_law_counts", "_law_limits_here"] _ _ := S24.at X G fun _ _ _ _ _ _ us hl => match us, hl with | [_, _, _], _ => rfl
  obtain ⟨_, _, S25⟩ := T.d25
  have A25 : At K mg "_law_passes" sLPass ["_law_rule_here", "_law_seats_here", "_law_roll_here", "_law_limits_here", "_law_leader_here"] _ _ := S25.at X G fun _ _ _ _ _ _ us hl => match us, hl with | [_, _, _, _, _], _ => rfl
  obtain ⟨_, _, S26⟩ := T.d26
  have A26 : At K mg "_law_leaves" sLeaves ["_law_rule_here"] _ _ := S26.at X G fun _ _ _ _ _ _ us hl => match us, hl with | [_], _ => rfl
  obtain ⟨_, _, S27⟩ := T.d27
  have A27 : At K mg "_law_chambers_of" sChs ["_law_rule_here"] _ _ := S27.at X G fun _ _ _ _ _ _ us hl => match us, hl with | [_], _ => rfl
  obtain ⟨_, _, S28⟩ := T.d28
  have A28 : At K mg "_law_numbers_of" sNos ["_law_rule_here"] _ _ := S28.at X G fun _ _ _ _ _ _ us hl => match us, hl with | [_], _ => rfl
  obtain ⟨_, _, S29⟩ := T.d29
  have A29 : At K mg "_law_other_limits" sOther ["_law_tape_here", "_law_limits_here", "_law_numbers"] _ _ := S29.at X G fun _ _ _ _ _ _ us hl => match us, hl with | [_, _, _], _ => rfl
  obtain ⟨_, _, S7⟩ := T.d7
  have m7 := PySem.W.mg_of X G S7.gl
  have D1 : Df P w K mg base "vote_of" 1 ["roll_call", "member"] spVote _ _ := A1.df (ok_vote A1.fn M)
  have D2 : Df P w K mg base "tally" 2 ["seats", "roll_call", "chamber"] spTally _ _ := A2.df (ok_tally A2.fn M D1)
  have D4 : Df P w K mg base "threshold_value" 1 ["threshold", "parameters"] spThr _ _ := A4.df (ok_thr A4.fn M)
  have D5 : Df P w K mg base "denominator_value" 1 ["denominator", "counted"] spDen _ _ := A5.df (ok_den A5.fn)
  have D6 : Df P w K mg base "passes_by_tally" 2 ["rule", "counted", "parameters"] spBy _ _ := A6.df (ok_by A6.fn D4 D5)
  have D8 : Df P w K mg base "simple_rules" 4 ["rule"] (spSims 4) _ _ := df_sims A8 4
  have D9 : Df P w K mg base "named" 5 ["rule"] spNamed _ _ := A9.df (ok_named A9.fn M D8)
  have D11 : Df P w K mg base "_law_tape" 1 ["_law_script"] (spTape K) _ _ := A11.df (ok_tape A11.fn M)
  have D12 : Df P w K mg base "_law_draw" 1 psDraw spDraw _ _ := A12.df (ok_draw A12.fn M)
  have D13 : Df P w K mg base "_law_same" 3 psSame (spSame 3) _ _ := df_same A13 M 3
  have D14 : Df P w K mg base "_law_holders" 2 ["_law_tape_here", "_law_top"] spHolders _ _ := A14.df (ok_holders A14.fn M D12)
  have D15 : Df P w K mg base "_law_seats" 3 ["_law_tape_here", "_law_most"] spSeats _ _ := A15.df (ok_seats A15.fn M D12 D14)
  have D16 : Df P w K mg base "_law_roll" 2 ["_law_tape_here", "_law_many"] spRoll _ _ := A16.df (ok_roll A16.fn M D12)
  have D17 : Df P w K mg base "_law_tally" 1 ["_law_seats_here", "_law_roll_here", "_law_chamber"] spLTally _ _ := A17.df (ok_ltally A17.fn M)
  have D18 : Df P w K mg base "_law_limits" 2 ["_law_tape_here"] spLimits _ _ := A18.df (ok_limits A18.fn M D12)
  have D19 : Df P w K mg base "_law_leader" 2 ["_law_tape_here"] spLeader _ _ := A19.df (ok_leader A19.fn M D12)
  have D20 : Df P w K mg base "_law_threshold" 2 ["_law_tape_here"] spThreshold _ _ := A20.df (ok_threshold A20.fn M D12)
  have D21 : Df P w K mg base "_law_simple" 3 psSrc spSimple _ _ := A21.df (ok_simple A21.fn M D12 D20)
  have D22 : Df P w K mg base "_law_rule" 7 psRule (spRule 4) _ _ := df_rule A22 D12 D21 4
  have D23 : Df P w K mg base "_law_limit" 1 ["_law_threshold_here", "_law_limits_here"] spThr _ _ := A23.df (ok_limit A23.fn M)
  have D24 : Df P w K mg base "_law_by_counts" 2 ["_law_rule_here", "_law_counts", "_law_limits_here"] spBy _ _ := A24.df (ok_byc A24.fn D23)
  have D25 : Df P w K mg base "_law_passes" 6 psLPass (spLPass 4) _ _ := df_lpass A25 M D24 D17 4
  have D26 : Df P w K mg base "_law_leaves" 4 ["_law_rule_here"] (spLeaves 4) _ _ := df_leaves A26 4
  have D27 : Df P w K mg base "_law_chambers_of" 5 ["_law_rule_here"] (spAsc Rule.chs) _ _ := A27.df (ok_chs A27.fn M D26)
  have D28 : Df P w K mg base "_law_numbers_of" 5 ["_law_rule_here"] (spAsc Rule.nos) _ _ := A28.df (ok_nos A28.fn M D26)
  have D29 : Df P w K mg base "_law_other_limits" 2 ["_law_tape_here", "_law_limits_here", "_law_numbers"] spOther _ _ := A29.df (ok_other A29.fn M D12)
  have kb := kb_pass S7.fn
  exact ⟨_, _, ⟨⟨_, _, D11⟩, ⟨_, _, D12⟩, ⟨_, _, D22⟩, ⟨_, _, D15⟩, ⟨_, _, D16⟩, ⟨_, _, D18⟩, ⟨_, _, D19⟩, ⟨_, _, D27⟩, ⟨_, _, D28⟩, ⟨_, _, D13⟩, ⟨_, _, D9⟩, ⟨_, _, D14⟩, ⟨_, _, D26⟩, ⟨_, _, D25⟩, ⟨_, _, D29⟩, ok_pass S7.fn M D1 D2 D6 m7 kb 4, m7, S7.fn.kp, kb⟩⟩
theorem all_law {l : PySem.W.OpenLaw} (T : Top K) (X : K.In h) (G : h.Ns mainGlobals mg) {fa : Addr} (hfa : mg "law" = some (.ref fa)) :
    ∃ fd : FuncData, (∀ (s : Shared) (v : Value), BindsTo s fd ⟨[v], []⟩ [("_law_script", v)]) ∧ ∀ base : Heap, K.In base → base.Ns mainGlobals mg → FnOk l.prog w K mg base CX0 8 fa fd ["_law_script"] (spLaw K) := by
  obtain ⟨f, fd, S⟩ := T.d30
  have e := hfa.symm.trans (PySem.W.mg_of X G S.gl)
  cases e
  refine ⟨fd, fun s v => ?_, fun base _ _ => ?_⟩
  · obtain ⟨oc, od, kV, doc, pm, an, cdv, ct, osl, rfl, lk, hcd⟩ := S.fn.ex
    exact .of_eq rfl
  · obtain ⟨fP, fdP, D⟩ := all_defs (P := l.prog) (w := w) (base := base) T X G
    exact ok_law S.fn (T.txt X G) D
end
theorem walk {l : PySem.W.OpenLaw} {q : Program} {loose : List Str} {XP : (Str → Option Value) → Heap → Prop} {YP : World → Heap → Prop} {d : DefRec} {K : Params → PySem.W.Frag} (hn : l.most = some 63) (hdf : d.params.defaults = []) (hd : d.name = "law")
    (hY : ∀ (w : World) (h : Heap), YP w h → (K w.params).In h) (T : ∀ w : World, Top (K w.params)) : PySem.W.WalkO q loose XP YP l.row.toRowW d [] (fun f vs => PySem.call f vs) :=
  L2.walk_of (n := 63) (k := 8) (x := "_law_script") (CX := fun _ => CX0) (sp := fun w => spLaw (K w.params)) hn (by decide) hdf ⟨rfl, by decide, by decide⟩ hY
    (fun w mg fa h X G hfa => all_law (T w) X G (by rw [← hd]; exact hfa)) (fun _ _ a ns _ _ hS => ⟨a, ns, rfl, hS, fun _ => rfl⟩) fun _ _ _ _ _ z => z
end Gz
open PySem PySem.W PyProof.Rows
set_option maxRecDepth 100000 in
set_option maxHeartbeats 0 in
theorem PySem.Challenge.cw_gazette_k03_whole_only_named_matters_holds : PySem.Challenge.rw_gazette_k03_whole_only_named_matters.Holds := by
  w_on; o_law; k_head; (case hw => w_witness2)
  k_fill
  refine Gz.walk (l := PySem.Challenge.rw_gazette_k03_whole_only_named_matters) rfl rfl rfl (fun w h Y => PySem.W.kIn_of Y) ?T
  case T =>
    intro w
    constructor
    · refine' Gz.stands_mk ?a ?l ?c ?k
      (case a => k_is); (case l => k_is); (case c => k_is); (case k => k_is)
    · refine' Gz.stands_mk ?a ?l ?c ?k
      (case a => k_is); (case l => k_is); (case c => k_is); (case k => k_is)
    · refine' Gz.stands_mk ?a ?l ?c ?k
      (case a => k_is); (case l => k_is); (case c => k_is); (case k => k_is)
    · refine' Gz.stands_mk ?a ?l ?c ?k
      (case a => k_is); (case l => k_is); (case c => k_is); (case k => k_is)
    · refine' Gz.stands_mk ?a ?l ?c ?k
      (case a => k_is); (case l => k_is); (case c => k_is); (case k => k_is)
    · refine' Gz.stands_mk ?a ?l ?c ?k
      (case a => k_is); (case l => k_is); (case c => k_is); (case k => k_is)
    · refine' Gz.stands_mk ?a ?l ?c ?k
      (case a => k_is); (case l => k_is); (case c => k_is); (case k => k_is)
    · refine' Gz.stands_mk ?a ?l ?c ?k
      (case a => k_is); (case l => k_is); (case c => k_is); (case k => k_is)
    · refine' Gz.stands_mk ?a ?l ?c ?k
      (case a => k_is); (case l => k_is); (case c => k_is); (case k => k_is)
    · refine' Gz.stands_mk ?a ?l ?c ?k
      (case a => k_is); (case l => k_is); (case c => k_is); (case k => k_is)
    · refine' Gz.stands_mk ?a ?l ?c ?k
      (case a => k_is); (case l => k_is); (case c => k_is); (case k => k_is)
    · refine' Gz.stands_mk ?a ?l ?c ?k
      (case a => k_is); (case l => k_is); (case c => k_is); (case k => k_is)
    · refine' Gz.stands_mk ?a ?l ?c ?k
      (case a => k_is); (case l => k_is); (case c => k_is); (case k => k_is)
    · refine' Gz.stands_mk ?a ?l ?c ?k
      (case a => k_is); (case l => k_is); (case c => k_is); (case k => k_is)
    · refine' Gz.stands_mk ?a ?l ?c ?k
      (case a => k_is); (case l => k_is); (case c => k_is); (case k => k_is)
    · refine' Gz.stands_mk ?a ?l ?c ?k
      (case a => k_is); (case l => k_is); (case c => k_is); (case k => k_is)
    · refine' Gz.stands_mk ?a ?l ?c ?k
      (case a => k_is); (case l => k_is); (case c => k_is); (case k => k_is)
    · refine' Gz.stands_mk ?a ?l ?c ?k
      (case a => k_is); (case l => k_is); (case c => k_is); (case k => k_is)
    · refine' Gz.stands_mk ?a ?l ?c ?k
      (case a => k_is); (case l => k_is); (case c => k_is); (case k => k_is)
    · refine' Gz.stands_mk ?a ?l ?c ?k
      (case a => k_is); (case l => k_is); (case c => k_is); (case k => k_is)
    · refine' Gz.stands_mk ?a ?l ?c ?k
      (case a => k_is); (case l => k_is); (case c => k_is); (case k => k_is)
    · refine' Gz.stands_mk ?a ?l ?c ?k
      (case a => k_is); (case l => k_is); (case c => k_is); (case k => k_is)
    · refine' Gz.stands_mk ?a ?l ?c ?k
      (case a => k_is); (case l => k_is); (case c => k_is); (case k => k_is)
    · refine' Gz.stands_mk ?a ?l ?c ?k
      (case a => k_is); (case l => k_is); (case c => k_is); (case k => k_is)
    · refine' Gz.stands_mk ?a ?l ?c ?k
      (case a => k_is); (case l => k_is); (case c => k_is); (case k => k_is)
    · refine' Gz.stands_mk ?a ?l ?c ?k
      (case a => k_is); (case l => k_is); (case c => k_is); (case k => k_is)
    · refine' Gz.stands_mk ?a ?l ?c ?k
      (case a => k_is); (case l => k_is); (case c => k_is); (case k => k_is)
    · refine' Gz.stands_mk ?a ?l ?c ?k
      (case a => k_is); (case l => k_is); (case c => k_is); (case k => k_is)
    · k_is
    · k_is
    · k_is
    · k_is
    · k_is
    · k_is
    · k_is
    · k_is
    · k_is
    · k_is
    · k_is
    · k_is
    · k_is
    · k_is
#print axioms PySem.Challenge.cw_gazette_k03_whole_only_named_matters_holds
