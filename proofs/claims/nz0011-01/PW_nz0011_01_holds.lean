import PyProof.Rows.All
import Wide.All
import OpenK.AllK
import Wide.FinOn
import Lean
import PySem.Challenge.RW_nz0011_01
open PySem PySem.W PyProof.Rows
set_option rowWalk.seconds 0
set_option Elab.async false
set_option maxRecDepth 100000
set_option maxHeartbeats 8000000
namespace Mine
open_top hd for PySem.Challenge.rw_nz0011_01
structure OmMark : Prop where mk ::
theorem room1 {a b c L : Nat} (h : a + c < L) (hb : Nat.ble b c = true) : a + b < L := Nat.lt_of_le_of_lt (Nat.add_le_add_left (Nat.le_of_ble_eq_true hb) a) h
theorem room2 {a b b' c L : Nat} (h : a + c < L) (hb : Nat.ble (b + b') c = true) : a + b + b' < L := Nat.add_assoc a b b' ▸ room1 h hb
theorem room3 {a b b' b'' c L : Nat} (h : a + c < L) (hb : Nat.ble (b + b' + b'') c = true) : a + b + b' + b'' < L := Nat.add_assoc a b b' ▸ room2 h hb
theorem le_lit {a b c : Nat} (h : a ≤ b) (hb : Nat.ble b c = true) : a ≤ c := Nat.le_trans h (Nat.le_of_ble_eq_true hb)
local macro_rules | `(tactic| omega) => `(tactic| k_extra "om")
local macro_rules | `(tactic| k_ne) => `(tactic| k_extra "ne")
local macro_rules | `(tactic| k_all) => `(tactic| with_reducible assumption)
local macro_rules | `(tactic| k_room) => `(tactic| ktr_room)
local macro_rules | `(tactic| k_units) => `(tactic| ktr_units)
local macro_rules | `(tactic| k_in) => `(tactic| k_extra "kin")
local macro_rules | `(tactic| walk_at $k:str) => `(tactic| k_extra $k)
section
noncomputable abbrev srcKV (c : Addr) (k : Int) (t : Tok) : List (Str × Value) := [(Str.ofString "cells", .ref c), (Str.ofString "spot", .int k t)]
theorem draw_tells {w : World} {mean : ExcName → Option Value} {mg mb : Str → Option Value} {dp un : Nat} {gd : Option (List Code)} {cn : Str} {cs : Scope} {a : Addr} {ccd : Value} {cl : List (Str × Addr)} {outer : List Env} {A₀ : Around} {base h₀ : Heap} {L : Addr} {m : Str → Option Value} {s : Shared} {Q E : Value → Shared → Prop}
    {d c : Addr} {o : Obj} {rest : List (Addr × Obj)} {k many : Int} {tk tm : Tok} {ws : List Value} {ns : List Int} {n : Nat}
    (B : Below A₀ base outer h₀) (F : Fr h₀ L s.heap m) (X : (hd.heap_39 w.params).In h₀) (N : News h₀ L s.heap ((d, o) :: (c, listOf ws.toArray n) :: rest)) (T : Top hd.view_39 (looseW hd.view_39 []) mean mg mb h₀) (hk : cs.kind = .function)
    (hoff : ∀ p ∈ rest, p.1 ≠ d) (hD : o.IsDictOf (PySem.strKind PySem.Challenge.rw_nz0011_01.row.prog w) (srcKV c k tk)) (hc : c ≠ d) (hI : IntsAre ws ns) (hl1 : 1 ≤ ns.length) (hl2 : ns.length ≤ 63) (hk0 : 0 ≤ k) (hk1 : k ≤ 1000) (hm0 : 1 ≤ many) (hm1 : many ≤ 100)
    (hdp : dp + 1 < recursionLimit)
    (hret : ∀ r t o' k' h' tk', 0 ≤ r → r < many → Fr h₀ L h' m → News h₀ L h' ((d, o') :: (c, listOf ws.toArray n) :: rest) → o'.IsDictOf (PySem.strKind PySem.Challenge.rw_nz0011_01.row.prog w) (srcKV c (k + 1) k') → Q (.int r t) { s with heap := h', toks := tk' }) :
    wpAny (model PySem.Challenge.rw_nz0011_01.row.prog w) (ktrTop dp un gd cn cs L a ccd cl outer) (call (.ref 231) [.ref d, .int many tm]) Q E s := by
  w_top off
  k_with_none
  k_with "ne" => (refine neN ?_; (try dsimp only); (first | with_reducible assumption | (with_reducible refine Ne.symm ?_; assumption) | (repeat (with_reducible rename _ ∧ _ => wz; first | exact wz.1 | exact Ne.symm wz.1 | exact Nat.ne_of_lt wz.1 | exact Nat.ne_of_gt wz.1 | exact wz.1.1 | exact Ne.symm wz.1.1 | exact wz.1.2.1 | exact Ne.symm wz.1.2.1 | exact wz.1.2.2 | exact Ne.symm wz.1.2.2 | exact wz.2.1 | exact Ne.symm wz.2.1 | exact Nat.ne_of_lt wz.2.1 | exact Nat.ne_of_gt wz.2.1 | exact wz.2 | exact Ne.symm wz.2 | exact Nat.ne_of_lt wz.2 | exact Nat.ne_of_gt wz.2 | exact wz.2.1.1 | exact Ne.symm wz.2.1.1 | exact wz.2.1.2.1 | exact Ne.symm wz.2.1.2.1 | exact wz.2.1.2.2 | exact Ne.symm wz.2.1.2.2 | exact wz.2.2.1 | exact Ne.symm wz.2.2.1 | exact Nat.ne_of_lt wz.2.2.1 | exact Nat.ne_of_gt wz.2.2.1 | exact wz.2.2 | exact Ne.symm wz.2.2 | exact Nat.ne_of_lt wz.2.2 | exact Nat.ne_of_gt wz.2.2 | exact wz.2.2.1.1 | exact Ne.symm wz.2.2.1.1 | exact wz.2.2.1.2.1 | exact Ne.symm wz.2.2.1.2.1 | exact wz.2.2.1.2.2 | exact Ne.symm wz.2.2.1.2.2 | exact wz.2.2.2.1 | exact Ne.symm wz.2.2.2.1 | exact Nat.ne_of_lt wz.2.2.2.1 | exact Nat.ne_of_gt wz.2.2.2.1 | exact wz.2.2.2 | exact Ne.symm wz.2.2.2 | exact Nat.ne_of_lt wz.2.2.2 | exact Nat.ne_of_gt wz.2.2.2 | exact wz.2.2.2.1.1 | exact Ne.symm wz.2.2.2.1.1 | exact wz.2.2.2.1.2.1 | exact Ne.symm wz.2.2.2.1.2.1 | exact wz.2.2.2.1.2.2 | exact Ne.symm wz.2.2.2.1.2.2 | exact wz.2.2.2.2.1 | exact Ne.symm wz.2.2.2.2.1 | exact Nat.ne_of_lt wz.2.2.2.2.1 | exact Nat.ne_of_gt wz.2.2.2.2.1 | exact wz.2.2.2.2 | exact Ne.symm wz.2.2.2.2 | exact Nat.ne_of_lt wz.2.2.2.2 | exact Nat.ne_of_gt wz.2.2.2.2 | exact wz.2.2.2.2.1.1 | exact Ne.symm wz.2.2.2.2.1.1 | exact wz.2.2.2.2.1.2.1 | exact Ne.symm wz.2.2.2.2.1.2.1 | exact wz.2.2.2.2.1.2.2 | exact Ne.symm wz.2.2.2.2.1.2.2 | exact wz.2.2.2.2.2.1 | exact Ne.symm wz.2.2.2.2.2.1 | exact Nat.ne_of_lt wz.2.2.2.2.2.1 | exact Nat.ne_of_gt wz.2.2.2.2.2.1 | exact wz.2.2.2.2.2 | exact Ne.symm wz.2.2.2.2.2 | exact Nat.ne_of_lt wz.2.2.2.2.2 | exact Nat.ne_of_gt wz.2.2.2.2.2 | exact wz.2.2.2.2.2.1.1 | exact Ne.symm wz.2.2.2.2.2.1.1 | exact wz.2.2.2.2.2.1.2.1 | exact Ne.symm wz.2.2.2.2.2.1.2.1 | exact wz.2.2.2.2.2.1.2.2 | exact Ne.symm wz.2.2.2.2.2.1.2.2 | exact wz.2.2.2.2.2.2.1 | exact Ne.symm wz.2.2.2.2.2.2.1 | exact Nat.ne_of_lt wz.2.2.2.2.2.2.1 | exact Nat.ne_of_gt wz.2.2.2.2.2.2.1 | exact wz.2.2.2.2.2.2 | exact Ne.symm wz.2.2.2.2.2.2 | exact Nat.ne_of_lt wz.2.2.2.2.2.2 | exact Nat.ne_of_gt wz.2.2.2.2.2.2 | exact wz.2.2.2.2.2.2.1.1 | exact Ne.symm wz.2.2.2.2.2.2.1.1 | exact wz.2.2.2.2.2.2.1.2.1 | exact Ne.symm wz.2.2.2.2.2.2.1.2.1 | exact wz.2.2.2.2.2.2.1.2.2 | exact Ne.symm wz.2.2.2.2.2.2.1.2.2 | exact wz.2.2.2.2.2.2.2.1 | exact Ne.symm wz.2.2.2.2.2.2.2.1 | exact Nat.ne_of_lt wz.2.2.2.2.2.2.2.1 | exact Nat.ne_of_gt wz.2.2.2.2.2.2.2.1 | exact wz.2.2.2.2.2.2.2 | exact Ne.symm wz.2.2.2.2.2.2.2 | exact Nat.ne_of_lt wz.2.2.2.2.2.2.2 | exact Nat.ne_of_gt wz.2.2.2.2.2.2.2 | exact wz.2.2.2.2.2.2.2.1.1 | exact Ne.symm wz.2.2.2.2.2.2.2.1.1 | exact wz.2.2.2.2.2.2.2.1.2.1 | exact Ne.symm wz.2.2.2.2.2.2.2.1.2.1 | exact wz.2.2.2.2.2.2.2.1.2.2 | exact Ne.symm wz.2.2.2.2.2.2.2.1.2.2 | exact wz.2.2.2.2.2.2.2.2.1 | exact Ne.symm wz.2.2.2.2.2.2.2.2.1 | exact Nat.ne_of_lt wz.2.2.2.2.2.2.2.2.1 | exact Nat.ne_of_gt wz.2.2.2.2.2.2.2.2.1 | exact wz.2.2.2.2.2.2.2.2 | exact Ne.symm wz.2.2.2.2.2.2.2.2 | exact Nat.ne_of_lt wz.2.2.2.2.2.2.2.2 | exact Nat.ne_of_gt wz.2.2.2.2.2.2.2.2 | exact wz.2.2.2.2.2.2.2.2.1.1 | exact Ne.symm wz.2.2.2.2.2.2.2.2.1.1 | exact wz.2.2.2.2.2.2.2.2.1.2.1 | exact Ne.symm wz.2.2.2.2.2.2.2.2.1.2.1 | exact wz.2.2.2.2.2.2.2.2.1.2.2 | exact Ne.symm wz.2.2.2.2.2.2.2.2.1.2.2 | exact wz.2.2.2.2.2.2.2.2.2.1 | exact Ne.symm wz.2.2.2.2.2.2.2.2.2.1 | exact Nat.ne_of_lt wz.2.2.2.2.2.2.2.2.2.1 | exact Nat.ne_of_gt wz.2.2.2.2.2.2.2.2.2.1 | exact wz.2.2.2.2.2.2.2.2.2 | exact Ne.symm wz.2.2.2.2.2.2.2.2.2 | exact Nat.ne_of_lt wz.2.2.2.2.2.2.2.2.2 | exact Nat.ne_of_gt wz.2.2.2.2.2.2.2.2.2 | exact wz.2.2.2.2.2.2.2.2.2.1.1 | exact Ne.symm wz.2.2.2.2.2.2.2.2.2.1.1 | exact wz.2.2.2.2.2.2.2.2.2.1.2.1 | exact Ne.symm wz.2.2.2.2.2.2.2.2.2.1.2.1 | exact wz.2.2.2.2.2.2.2.2.2.1.2.2 | exact Ne.symm wz.2.2.2.2.2.2.2.2.2.1.2.2 | exact wz.2.2.2.2.2.2.2.2.2.2.1 | exact Ne.symm wz.2.2.2.2.2.2.2.2.2.2.1 | exact Nat.ne_of_lt wz.2.2.2.2.2.2.2.2.2.2.1 | exact Nat.ne_of_gt wz.2.2.2.2.2.2.2.2.2.2.1 | exact wz.2.2.2.2.2.2.2.2.2.2 | exact Ne.symm wz.2.2.2.2.2.2.2.2.2.2 | exact Nat.ne_of_lt wz.2.2.2.2.2.2.2.2.2.2 | exact Nat.ne_of_gt wz.2.2.2.2.2.2.2.2.2.2 | exact wz.2.2.2.2.2.2.2.2.2.2.1.1 | exact Ne.symm wz.2.2.2.2.2.2.2.2.2.2.1.1 | exact wz.2.2.2.2.2.2.2.2.2.2.1.2.1 | exact Ne.symm wz.2.2.2.2.2.2.2.2.2.2.1.2.1 | exact wz.2.2.2.2.2.2.2.2.2.2.1.2.2 | exact Ne.symm wz.2.2.2.2.2.2.2.2.2.2.1.2.2 | exact wz.2.2.2.2.2.2.2.2.2.2.2.1 | exact Ne.symm wz.2.2.2.2.2.2.2.2.2.2.2.1 | exact Nat.ne_of_lt wz.2.2.2.2.2.2.2.2.2.2.2.1 | exact Nat.ne_of_gt wz.2.2.2.2.2.2.2.2.2.2.2.1 | exact wz.2.2.2.2.2.2.2.2.2.2.2 | exact Ne.symm wz.2.2.2.2.2.2.2.2.2.2.2 | exact Nat.ne_of_lt wz.2.2.2.2.2.2.2.2.2.2.2 | exact Nat.ne_of_gt wz.2.2.2.2.2.2.2.2.2.2.2 | exact wz.2.2.2.2.2.2.2.2.2.2.2.1.1 | exact Ne.symm wz.2.2.2.2.2.2.2.2.2.2.2.1.1 | exact wz.2.2.2.2.2.2.2.2.2.2.2.1.2.1 | exact Ne.symm wz.2.2.2.2.2.2.2.2.2.2.2.1.2.1 | exact wz.2.2.2.2.2.2.2.2.2.2.2.1.2.2 | exact Ne.symm wz.2.2.2.2.2.2.2.2.2.2.2.1.2.2 | exact wz.2.2.2.2.2.2.2.2.2.2.2.2.1 | exact Ne.symm wz.2.2.2.2.2.2.2.2.2.2.2.2.1 | exact Nat.ne_of_lt wz.2.2.2.2.2.2.2.2.2.2.2.2.1 | exact Nat.ne_of_gt wz.2.2.2.2.2.2.2.2.2.2.2.2.1 | exact wz.2.2.2.2.2.2.2.2.2.2.2.2 | exact Ne.symm wz.2.2.2.2.2.2.2.2.2.2.2.2 | exact Nat.ne_of_lt wz.2.2.2.2.2.2.2.2.2.2.2.2 | exact Nat.ne_of_gt wz.2.2.2.2.2.2.2.2.2.2.2.2 | exact wz.2.2.2.2.2.2.2.2.2.2.2.2.1.1 | exact Ne.symm wz.2.2.2.2.2.2.2.2.2.2.2.2.1.1 | exact wz.2.2.2.2.2.2.2.2.2.2.2.2.1.2.1 | exact Ne.symm wz.2.2.2.2.2.2.2.2.2.2.2.2.1.2.1 | exact wz.2.2.2.2.2.2.2.2.2.2.2.2.1.2.2 | exact Ne.symm wz.2.2.2.2.2.2.2.2.2.2.2.2.1.2.2 | exact wz.2.2.2.2.2.2.2.2.2.2.2.2.2.1 | exact Ne.symm wz.2.2.2.2.2.2.2.2.2.2.2.2.2.1 | exact Nat.ne_of_lt wz.2.2.2.2.2.2.2.2.2.2.2.2.2.1 | exact Nat.ne_of_gt wz.2.2.2.2.2.2.2.2.2.2.2.2.2.1 | exact wz.2.2.2.2.2.2.2.2.2.2.2.2.2 | exact Ne.symm wz.2.2.2.2.2.2.2.2.2.2.2.2.2 | exact Nat.ne_of_lt wz.2.2.2.2.2.2.2.2.2.2.2.2.2 | exact Nat.ne_of_gt wz.2.2.2.2.2.2.2.2.2.2.2.2.2 | exact wz.2.2.2.2.2.2.2.2.2.2.2.2.2.1.1 | exact Ne.symm wz.2.2.2.2.2.2.2.2.2.2.2.2.2.1.1 | exact wz.2.2.2.2.2.2.2.2.2.2.2.2.2.1.2.1 | exact Ne.symm wz.2.2.2.2.2.2.2.2.2.2.2.2.2.1.2.1 | exact wz.2.2.2.2.2.2.2.2.2.2.2.2.2.1.2.2 | exact Ne.symm wz.2.2.2.2.2.2.2.2.2.2.2.2.2.1.2.2 | clear wz))); done)
  k_with "om" => ((fail_if_success (with_reducible rename OmMark => x9)); first | decide | exact le_lit (by with_reducible assumption) rfl | exact room1 (by with_reducible assumption) rfl | exact room2 (by with_reducible assumption) rfl | exact room3 (by with_reducible assumption) rfl | ((have m9 : OmMark := OmMark.mk); (first | (with_reducible rename _ ∧ _ => z9; clear z9) | (with_reducible rename @Ne _ _ _ => z9; clear z9)); (repeat (with_reducible rename _ ∧ _ => z9; clear z9)); (repeat (with_reducible rename @Ne _ _ _ => z9; clear z9)); omega))
  k_with "setItem ref str" => (k_here; k_dflt (refine' kda_set (knd := PySem.strKind _ _) ?w0wF ?w0wN ?w0wU ?w0wd (strKind_is _ _ _ _) ?w0wz ?_; (case w0wF => k_asm); (case w0wN => k_asm); (case w0wU => k_updF); (case w0wd => k_asm); (case w0wz => rw [sizeLine_eq]; exact Nat.le_of_ble_eq_true (by with_unfolding_all rfl))); intro w0wh' w0wo' w0wF' w0wN' w0whd'; (try dsimp only at w0wN'))
  revert X
  k_fill
  intro X
  refine wpAny_call ?_
  k_dflt cell_enter
  k_steps
  refine hret _ _ _ _ _ _ ?_ ?_ (by assumption) (kst_newsOf (by assumption) fun _ h => List.Mem.tail _ h) (by assumption)
  · exact Int.fmod_nonneg_of_pos _ (by omega)
  · exact Int.fmod_lt_of_pos _ (by omega)
theorem draw_use {w : World} {mean : ExcName → Option Value} {mg mb : Str → Option Value} {dp un : Nat} {gd : Option (List Code)} {cn : Str} {cs : Scope} {a : Addr} {ccd : Value} {cl : List (Str × Addr)} {outer : List Env} {A₀ : Around} {base h₀ : Heap} {L : Addr} {m : Str → Option Value} {s : Shared} {Q E : Value → Shared → Prop}
    {d c : Addr} {o : Obj} {news : List (Addr × Obj)} {g : Obj → List (Addr × Obj)} {k many : Int} {tk tm : Tok} {ws : List Value} {ns : List Int} {n : Nat}
    (B : Below A₀ base outer h₀) (F : Fr h₀ L s.heap m) (X : (hd.heap_39 w.params).In h₀) (N : News h₀ L s.heap news) (T : Top hd.view_39 (looseW hd.view_39 []) mean mg mb h₀) (hk : cs.kind = .function)
    (U : UpdF d o news g) (hD : o.IsDictOf (PySem.strKind PySem.Challenge.rw_nz0011_01.row.prog w) (srcKV c k tk)) (hc : (c, listOf ws.toArray n) ∈ news) (hcd : c ≠ d) (hI : IntsAre ws ns) (hl1 : 1 ≤ ns.length) (hl2 : ns.length ≤ 63) (hk0 : 0 ≤ k) (hk1 : k ≤ 1000) (hm0 : 1 ≤ many) (hm1 : many ≤ 100)
    (hdp : dp + 1 < recursionLimit)
    (hret : ∀ r t o' k' h' tk', 0 ≤ r → r < many → Fr h₀ L h' m → News h₀ L h' (g o') → o'.IsDictOf (PySem.strKind PySem.Challenge.rw_nz0011_01.row.prog w) (srcKV c (k + 1) k') → Q (.int r t) { s with heap := h', toks := tk' }) :
    wpAny (model PySem.Challenge.rw_nz0011_01.row.prog w) (ktrTop dp un gd cn cs L a ccd cl outer) (call (.ref 231) [.ref d, .int many tm]) Q E s := by
  obtain ⟨pre, post, rfl, hg, hpre, hpost⟩ := U.split
  refine draw_tells (rest := pre ++ post) (n := n) B F X (fun p hp => ?_) T hk (fun p hp => ?_) hD hcd hI hl1 hl2 hk0 hk1 hm0 hm1 hdp (fun r t o' k' h' tk' h0 h1 F' N' hD' => hret r t o' k' h' tk' h0 h1 F' (hg o' ▸ fun p hp => ?_) hD')
  · rcases List.mem_cons.mp hp with rfl | hp
    · exact N _ (List.mem_append_right _ (.head _))
    · rcases List.mem_cons.mp hp with rfl | hp
      · exact N _ hc
      · exact N _ ((List.mem_append.mp hp).elim (fun h => List.mem_append_left _ h) fun h => List.mem_append_right _ (.tail _ h))
  · exact (List.mem_append.mp hp).elim (hpre p) (hpost p)
  · refine N' p ?_
    rcases List.mem_append.mp hp with h | h
    · exact .tail _ (.tail _ (List.mem_append_left _ h))
    · rcases List.mem_cons.mp h with rfl | h
      · exact .head _
      · exact .tail _ (.tail _ (List.mem_append_right _ h))
section
variable {prog : Program} {w : World} {A : Around} {h₀ : Heap} {L : Addr} {m : Str → Option Value} {env : Env} {elt : Expr} {x : Str} {scope : Scope} {cl : List (Str × Addr)} {s : Shared} {S : List (Addr × Obj) → Prop} {P : Nat → Value → Prop} {Fin : List Value → List (Addr × Obj) → Prop}
/-- a comprehension's turns by an invariant over the items made and the ledger's letter -/
theorem comp_inv {σ : Type} {n : Nat} (Led : σ → List (Addr × Obj)) (J : Nat → List Value → σ → Prop) (c₀ : σ) (h0 : J 0 [] c₀)
    (turn : ∀ i c ys v I oI C oC D m₂ h tk (E' : Value → Shared → Prop), i < n → P i v → J i ys c → LCg.NsObj oC m₂ → m₂ x = some v → Fr h₀ L h m → News h₀ L h ((I, oI) :: (C, oC) :: (D, LCg.lst ys) :: Led c) → LCg.Off3 I C D (Led c) → ((@Ne Nat I C) ∧ (@Ne Nat I D) ∧ (@Ne Nat C D)) →
      wpAny (model prog w) A (eval elt (compEnvC scope cl C env)) (LCg.CompEnd h₀ L m { s with heap := h, toks := tk } I oI C oC D (LCg.lst ys) S (fun y news' => ∃ c', news' = Led c' ∧ J (i + 1) (ys ++ [y]) c')) E' { s with heap := h, toks := tk })
    (fin : ∀ ys c, J n ys c → Fin ys (Led c)) : LCg.CompRest prog w A h₀ L m env elt x scope cl s S P Fin n 0 [] (Led c₀) := by
  have key : ∀ (j i : Nat) (ys : List Value) (c : σ), i + j = n → J i ys c → LCg.CompRest prog w A h₀ L m env elt x scope cl s S P Fin j i ys (Led c) := by
    intro j
    induction j with
    | zero =>
      intro i ys c hi hJ
      have e : i = n := by omega
      subst e
      exact LCg.CompRest.zero (fin ys c hJ)
    | succ j ih =>
      intro i ys c hi hJ
      refine LCg.CompRest.succ ?_
      intro v I oI C oC D m₂ h tk E' hv hC hx F N off ne
      refine wpAny_mono (turn i c ys v I oI C oC D m₂ h tk E' (by omega) hv hJ hC hx F N off ne) (fun y s₂ hq => ?_) fun _ _ e => e
      obtain ⟨h', tk', nw, e, F', N', off', hS, c', hn, hJ'⟩ := hq
      rw [hn] at N' off' hS
      exact ⟨h', tk', Led c', e, F', N', off', hS, ih (i + 1) _ c' (by omega) hJ'⟩
  exact key n 0 [] c₀ (by omega) h0
end
/-- what a comprehension of draws keeps -/
def DrawJ (w : World) (c : Addr) (k₀ mx : Int) (i : Nat) (ys : List Value) (q : Obj × Tok) : Prop :=
  q.1.IsDictOf (PySem.strKind PySem.Challenge.rw_nz0011_01.row.prog w) (srcKV c (k₀ + (i : Int)) q.2) ∧ ∃ rs, IntsAre ys rs ∧ rs.length = i ∧ ∀ r ∈ rs, 0 ≤ r ∧ r < mx
theorem comp_draw {w : World} {A : Around} {h₀ : Heap} {L : Addr} {m : Str → Option Value} {env : Env} {elt : Expr} {x : Str} {scope : Scope} {cl : List (Str × Addr)} {s : Shared} {S : List (Addr × Obj) → Prop} {P : Nat → Value → Prop} {Fin : List Value → List (Addr × Obj) → Prop}
    {d c : Addr} {o : Obj} {t₀ : Tok} {news : List (Addr × Obj)} {g : Obj → List (Addr × Obj)} {k₀ : Int} {n : Nat} (mx : Int)
    (hD : o.IsDictOf (PySem.strKind PySem.Challenge.rw_nz0011_01.row.prog w) (srcKV c k₀ t₀)) (_hm : (d, o) ∈ news) (U : UpdF d o news g)
    (turn : ∀ (i : Nat) (o' : Obj) (t' : Tok) ys rs v I oI C oC D m₂ h tk (E' : Value → Shared → Prop), i < n → P i v → o'.IsDictOf (PySem.strKind PySem.Challenge.rw_nz0011_01.row.prog w) (srcKV c (k₀ + (i : Int)) t') → IntsAre ys rs → rs.length = i → (∀ r ∈ rs, 0 ≤ r ∧ r < mx) → LCg.NsObj oC m₂ → m₂ x = some v → Fr h₀ L h m → News h₀ L h ((I, oI) :: (C, oC) :: (D, LCg.lst ys) :: g o') → LCg.Off3 I C D (g o') → ((@Ne Nat I C) ∧ (@Ne Nat I D) ∧ (@Ne Nat C D)) →
      wpAny (model PySem.Challenge.rw_nz0011_01.row.prog w) A (eval elt (compEnvC scope cl C env)) (LCg.CompEnd h₀ L m { s with heap := h, toks := tk } I oI C oC D (LCg.lst ys) S (fun y news' => ∃ o'' t'' r tt, news' = g o'' ∧ y = .int r tt ∧ 0 ≤ r ∧ r < mx ∧ o''.IsDictOf (PySem.strKind PySem.Challenge.rw_nz0011_01.row.prog w) (srcKV c (k₀ + (i : Int) + 1) t''))) E' { s with heap := h, toks := tk })
    (fin : ∀ ys rs o' t', IntsAre ys rs → rs.length = n → (∀ r ∈ rs, 0 ≤ r ∧ r < mx) → o'.IsDictOf (PySem.strKind PySem.Challenge.rw_nz0011_01.row.prog w) (srcKV c (k₀ + (n : Int)) t') → Fin ys (g o')) :
    LCg.CompRest PySem.Challenge.rw_nz0011_01.row.prog w A h₀ L m env elt x scope cl s S P Fin n 0 [] news := by
  have hg : news = g o := by
    obtain ⟨pre, post, rfl, hg, _, _⟩ := U.split
    exact (hg o).symm
  rw [hg]
  refine comp_inv (fun q : Obj × Tok => g q.1) (DrawJ w c k₀ mx) (o, t₀) ⟨by simpa using hD, [], .nil, rfl, fun _ h => nomatch h⟩ ?_ ?_
  · rintro i ⟨o', t'⟩ ys v I oI C oC D m₂ h tk E' hi hv ⟨hD', rs, hI, hl, hr⟩ hC hx F N off ne
    refine wpAny_mono (turn i o' t' ys rs v I oI C oC D m₂ h tk E' hi hv hD' hI hl hr hC hx F N off ne) (fun y s₂ hq => ?_) fun _ _ e => e
    obtain ⟨h', tk', nw, e, F', N', off', hS, o'', t'', r, tt, hn, hy, h0, h1, hD''⟩ := hq
    refine ⟨h', tk', nw, e, F', N', off', hS, (o'', t''), hn, ⟨?_, rs ++ [r], ?_, ?_, ?_⟩⟩
    · rw [show k₀ + ((i + 1 : Nat) : Int) = k₀ + (i : Int) + 1 by omega]; exact hD''
    · rw [hy]; exact IntsAre.append hI (.cons r tt .nil)
    · simp [hl]
    · intro r' hr'
      rcases List.mem_append.mp hr' with h | h
      · exact hr r' h
      · rw [List.mem_singleton.mp h]; exact ⟨h0, h1⟩
  · rintro ys ⟨o', t'⟩ ⟨hD', rs, hI, hl, hr⟩
    exact fin ys rs o' t' hI hl hr hD'
theorem news_tup_dict {w : World} {h₀ h : Heap} {L x d : Addr} {news : List (Addr × Obj)} {vs : Array Value} {n : Nat} {o : Obj} {kvs : List (Str × Value)} (N : News h₀ L h news) (hx : (x, ({ cls := .type "tuple", data := .seq vs n } : Obj)) ∈ news) (hd : (d, o) ∈ news) (hD : o.IsDictOf (PySem.strKind PySem.Challenge.rw_nz0011_01.row.prog w) kvs) : @Ne Nat x d := by
  rintro rfl
  have h1 := (N _ hx).1
  have h2 := (N _ hd).1
  rw [h1] at h2
  obtain ⟨es, ep, hc, _⟩ := hD
  have e : ({ cls := .type "tuple", data := .seq vs n } : Obj) = o := Option.some.inj h2
  have e1 : (Value.type "tuple") = .type "dict" := by rw [← hc.1, ← e]
  exact absurd e1 (by decide)
theorem news_tup_list {h₀ h : Heap} {L x c : Addr} {news : List (Addr × Obj)} {vs us : Array Value} {n k : Nat} (N : News h₀ L h news) (hx : (x, ({ cls := .type "tuple", data := .seq vs n } : Obj)) ∈ news) (hc : (c, listOf us k) ∈ news) : @Ne Nat x c := by
  rintro rfl
  have h1 := (N _ hx).1
  have h2 := (N _ hc).1
  rw [h1] at h2
  have e : ({ cls := .type "tuple", data := .seq vs n } : Obj) = listOf us k := Option.some.inj h2
  have e1 : (Value.type "tuple") = .type "list" := congrArg Obj.cls e
  exact absurd e1 (by decide)
noncomputable abbrev tupO (vs : List Value) : Obj := { cls := .type "tuple", data := .seq vs.toArray }
theorem tupO_tup {h₀ h : Heap} {L t : Addr} {news : List (Addr × Obj)} {vs : List Value} (N : News h₀ L h news) (ht : (t, tupO vs) ∈ news) : IsTup h t vs.toArray := ⟨_, (N _ ht).1, rfl, 0, rfl⟩
theorem tup_add {w : World} {A : Around} {E : Value → Shared → Prop} {s : Shared} {h₀ : Heap} {L t b d : Addr} {m : Str → Option Value} {news : List (Addr × Obj)} {vs ws : List Value} {ns ms : List Int} {o : Obj} {kvs : List (Str × Value)} {Q : Value → Shared → Prop} (F : Fr h₀ L s.heap m) (N : News h₀ L s.heap news)
    (ht : (t, tupO vs) ∈ news) (hb : (b, tupO ws) ∈ news) (hi : IntsAre vs ns) (hj : IntsAre ws ms) (hl : ns.length ≤ 3) (hl' : ms.length ≤ 3) (hD : o.IsDictOf (PySem.strKind PySem.Challenge.rw_nz0011_01.row.prog w) kvs) (hd : (d, o) ∈ news)
    (h : ∀ z h', Fr h₀ L h' m → News h₀ L h' ((z, tupO (vs ++ ws)) :: news) → IntsAre (vs ++ ws) (ns ++ ms) → @Ne Nat z d → Q (.ref z) { s with heap := h' }) :
    wpAny (model PySem.Challenge.rw_nz0011_01.row.prog w) A (binaryOp .Add (.ref t) (.ref b)) Q E s := by
  have hI := IntsAre.append hi hj
  refine add_tuples F N (tupO_tup N ht) (tupO_tup N hb) (fun e => ?_) (fun _ e => ?_) (fun _ _ h' F' N' => ?_) (by rw [hi.length, hj.length, sizeLine_eq]; omega)
  · have e2 : vs ++ ws = ws := by rw [e]; rfl
    have N1 : News h₀ L s.heap ((b, tupO (vs ++ ws)) :: news) := fun p hp => by
      rcases List.mem_cons.mp hp with rfl | hp
      · rw [e2]; exact N _ hb
      · exact N _ hp
    exact h b s.heap F N1 hI (news_tup_dict N1 (.head _) (.tail _ hd) hD)
  · have e2 : vs ++ ws = vs := by rw [e]; simp
    have N1 : News h₀ L s.heap ((t, tupO (vs ++ ws)) :: news) := fun p hp => by
      rcases List.mem_cons.mp hp with rfl | hp
      · rw [e2]; exact N _ ht
      · exact N _ hp
    exact h t s.heap F N1 hI (news_tup_dict N1 (.head _) (.tail _ hd) hD)
  · exact h _ h' F' N' hI (news_tup_dict N' (.head _) (.tail _ hd) hD)
theorem news_tup_dct {h₀ h : Heap} {L x d : Addr} {news : List (Addr × Obj)} {vs : Array Value} {n k : Nat} {es : List DictEntry} (N : News h₀ L h news) (hx : (x, ({ cls := .type "tuple", data := .seq vs n } : Obj)) ∈ news) (hd : (d, dictOf es k) ∈ news) : @Ne Nat x d := by
  rintro rfl
  have h1 := (N _ hx).1
  have h2 := (N _ hd).1
  rw [h1] at h2
  have e : ({ cls := .type "tuple", data := .seq vs n } : Obj) = dictOf es k := Option.some.inj h2
  have e1 : (Value.type "tuple") = .type "dict" := congrArg Obj.cls e
  exact absurd e1 (by decide)
theorem tup_add0 {w : World} {A : Around} {E : Value → Shared → Prop} {s : Shared} {h₀ : Heap} {L t b d : Addr} {m : Str → Option Value} {news : List (Addr × Obj)} {vs ws : List Value} {ns ms : List Int} {es : List DictEntry} {k : Nat} {Q : Value → Shared → Prop} (F : Fr h₀ L s.heap m) (N : News h₀ L s.heap news)
    (ht : (t, tupO vs) ∈ news) (hb : (b, tupO ws) ∈ news) (hi : IntsAre vs ns) (hj : IntsAre ws ms) (hl : ns.length ≤ 3) (hl' : ms.length ≤ 3) (hd : (d, dictOf es k) ∈ news)
    (h : ∀ z h', Fr h₀ L h' m → News h₀ L h' ((z, tupO (vs ++ ws)) :: news) → IntsAre (vs ++ ws) (ns ++ ms) → @Ne Nat z d → Q (.ref z) { s with heap := h' }) :
    wpAny (model PySem.Challenge.rw_nz0011_01.row.prog w) A (binaryOp .Add (.ref t) (.ref b)) Q E s := by
  have hI := IntsAre.append hi hj
  refine add_tuples F N (tupO_tup N ht) (tupO_tup N hb) (fun e => ?_) (fun _ e => ?_) (fun _ _ h' F' N' => ?_) (by rw [hi.length, hj.length, sizeLine_eq]; omega)
  · have e2 : vs ++ ws = ws := by rw [e]; rfl
    have N1 : News h₀ L s.heap ((b, tupO (vs ++ ws)) :: news) := fun p hp => by
      rcases List.mem_cons.mp hp with rfl | hp
      · rw [e2]; exact N _ hb
      · exact N _ hp
    exact h b s.heap F N1 hI (news_tup_dct N1 (.head _) (.tail _ hd))
  · have e2 : vs ++ ws = vs := by rw [e]; simp
    have N1 : News h₀ L s.heap ((t, tupO (vs ++ ws)) :: news) := fun p hp => by
      rcases List.mem_cons.mp hp with rfl | hp
      · rw [e2]; exact N _ ht
      · exact N _ hp
    exact h t s.heap F N1 hI (news_tup_dct N1 (.head _) (.tail _ hd))
  · exact h _ h' F' N' hI (news_tup_dct N' (.head _) (.tail _ hd))
theorem len_tupO {prog : Program} {w : World} {A : Around} {E : Value → Shared → Prop} {s : Shared} {h₀ : Heap} {L t : Addr} {news : List (Addr × Obj)} {vs : List Value} {ns : List Int} {Q : Value → Shared → Prop} (N : News h₀ L s.heap news) (ht : (t, tupO vs) ∈ news) (hi : IntsAre vs ns) (hl : ns.length ≤ 100)
    (h : ∀ tk tk', Q (.int (ns.length : Nat) tk) { s with toks := tk' }) : wpAny (model prog w) A (call (.builtin "len") [.ref t]) Q E s := by
  have e : vs.toArray.size = ns.length := by rw [List.size_toArray]; exact hi.length
  refine len_tuple (tupO_tup N ht) (by rw [e]; omega) ?_
  rw [e]
  exact h _ _
theorem compEnd_draw {w : World} {h₀ : Heap} {L : Addr} {m : Str → Option Value} {s₁ : Shared} {I C D : Addr} {oI oC oD : Obj} {S : List (Addr × Obj) → Prop} {g : Obj → List (Addr × Obj)} {c : Addr} {kk mx r : Int} {tt t'' : Tok} {o'' : Obj} {h' : Heap} {tk : Nat}
    (F : Fr h₀ L h' m) (N : News h₀ L h' ((I, oI) :: (C, oC) :: (D, oD) :: g o'')) (off : LCg.Off3 I C D (g o'')) (hS : S (g o'')) (hD : o''.IsDictOf (PySem.strKind PySem.Challenge.rw_nz0011_01.row.prog w) (srcKV c (kk + 1) t'')) (h0 : 0 ≤ r) (h1 : r < mx) :
    LCg.CompEnd h₀ L m s₁ I oI C oC D oD S (fun y news' => ∃ o'' t'' r tt, news' = g o'' ∧ y = .int r tt ∧ 0 ≤ r ∧ r < mx ∧ o''.IsDictOf (PySem.strKind PySem.Challenge.rw_nz0011_01.row.prog w) (srcKV c (kk + 1) t'')) (.int r tt) { s₁ with heap := h', toks := tk } :=
  LCg.CompEnd.intro F N (g o'') (fun _ h => h) off hS ⟨o'', t'', r, tt, rfl, rfl, h0, h1, hD⟩
end
section
theorem row_tells {w : World} {mean : ExcName → Option Value} {mg mb : Str → Option Value} {dp un : Nat} {gd : Option (List Code)} {cn : Str} {cs : Scope} {a : Addr} {ccd : Value} {cl : List (Str × Addr)} {outer : List Env} {A₀ : Around} {base h₀ : Heap} {L : Addr} {m : Str → Option Value} {s : Shared} {Q E : Value → Shared → Prop}
    {d c : Addr} {o : Obj} {rest : List (Addr × Obj)} {k : Int} {tk : Tok} {ws : List Value} {ns : List Int} {n : Nat}
    (B : Below A₀ base outer h₀) (F : Fr h₀ L s.heap m) (X : (hd.heap_39 w.params).In h₀) (N : News h₀ L s.heap ((d, o) :: (c, listOf ws.toArray n) :: rest)) (T : Top hd.view_39 (looseW hd.view_39 []) mean mg mb h₀) (hk : cs.kind = .function)
    (hoff : ∀ p ∈ rest, p.1 ≠ d) (hD : o.IsDictOf (PySem.strKind PySem.Challenge.rw_nz0011_01.row.prog w) (srcKV c k tk)) (hcd : c ≠ d) (hI : IntsAre ws ns) (hl1 : 1 ≤ ns.length) (hl2 : ns.length ≤ 63) (hk0 : 0 ≤ k) (hk1 : k ≤ 900)
    (hdp : dp + 3 < recursionLimit)
    (hret : ∀ x vs rs k' t' o' h' tk', IntsAre vs rs → rs.length ≤ 3 → (∀ r ∈ rs, 0 ≤ r ∧ r < 4) → k ≤ k' → k' ≤ k + 4 → @Ne Nat x d → @Ne Nat x c → Fr h₀ L h' m → News h₀ L h' ((x, { cls := .type "tuple", data := .seq vs.toArray }) :: (d, o') :: (c, listOf ws.toArray n) :: rest) → o'.IsDictOf (PySem.strKind PySem.Challenge.rw_nz0011_01.row.prog w) (srcKV c k' t') → Q (.ref x) { s with heap := h', toks := tk' }) :
    wpAny (model PySem.Challenge.rw_nz0011_01.row.prog w) (ktrTop dp un gd cn cs L a ccd cl outer) (call (.ref 241) [.ref d]) Q E s := by
  w_top off
  k_with_none
  k_with "ne" => (refine neN ?_; (try dsimp only); (first | with_reducible assumption | (with_reducible refine Ne.symm ?_; assumption) | (repeat (with_reducible rename _ ∧ _ => wz; first | exact wz.1 | exact Ne.symm wz.1 | exact Nat.ne_of_lt wz.1 | exact Nat.ne_of_gt wz.1 | exact wz.1.1 | exact Ne.symm wz.1.1 | exact wz.1.2.1 | exact Ne.symm wz.1.2.1 | exact wz.1.2.2 | exact Ne.symm wz.1.2.2 | exact wz.2.1 | exact Ne.symm wz.2.1 | exact Nat.ne_of_lt wz.2.1 | exact Nat.ne_of_gt wz.2.1 | exact wz.2 | exact Ne.symm wz.2 | exact Nat.ne_of_lt wz.2 | exact Nat.ne_of_gt wz.2 | exact wz.2.1.1 | exact Ne.symm wz.2.1.1 | exact wz.2.1.2.1 | exact Ne.symm wz.2.1.2.1 | exact wz.2.1.2.2 | exact Ne.symm wz.2.1.2.2 | exact wz.2.2.1 | exact Ne.symm wz.2.2.1 | exact Nat.ne_of_lt wz.2.2.1 | exact Nat.ne_of_gt wz.2.2.1 | exact wz.2.2 | exact Ne.symm wz.2.2 | exact Nat.ne_of_lt wz.2.2 | exact Nat.ne_of_gt wz.2.2 | exact wz.2.2.1.1 | exact Ne.symm wz.2.2.1.1 | exact wz.2.2.1.2.1 | exact Ne.symm wz.2.2.1.2.1 | exact wz.2.2.1.2.2 | exact Ne.symm wz.2.2.1.2.2 | exact wz.2.2.2.1 | exact Ne.symm wz.2.2.2.1 | exact Nat.ne_of_lt wz.2.2.2.1 | exact Nat.ne_of_gt wz.2.2.2.1 | exact wz.2.2.2 | exact Ne.symm wz.2.2.2 | exact Nat.ne_of_lt wz.2.2.2 | exact Nat.ne_of_gt wz.2.2.2 | exact wz.2.2.2.1.1 | exact Ne.symm wz.2.2.2.1.1 | exact wz.2.2.2.1.2.1 | exact Ne.symm wz.2.2.2.1.2.1 | exact wz.2.2.2.1.2.2 | exact Ne.symm wz.2.2.2.1.2.2 | exact wz.2.2.2.2.1 | exact Ne.symm wz.2.2.2.2.1 | exact Nat.ne_of_lt wz.2.2.2.2.1 | exact Nat.ne_of_gt wz.2.2.2.2.1 | exact wz.2.2.2.2 | exact Ne.symm wz.2.2.2.2 | exact Nat.ne_of_lt wz.2.2.2.2 | exact Nat.ne_of_gt wz.2.2.2.2 | exact wz.2.2.2.2.1.1 | exact Ne.symm wz.2.2.2.2.1.1 | exact wz.2.2.2.2.1.2.1 | exact Ne.symm wz.2.2.2.2.1.2.1 | exact wz.2.2.2.2.1.2.2 | exact Ne.symm wz.2.2.2.2.1.2.2 | exact wz.2.2.2.2.2.1 | exact Ne.symm wz.2.2.2.2.2.1 | exact Nat.ne_of_lt wz.2.2.2.2.2.1 | exact Nat.ne_of_gt wz.2.2.2.2.2.1 | exact wz.2.2.2.2.2 | exact Ne.symm wz.2.2.2.2.2 | exact Nat.ne_of_lt wz.2.2.2.2.2 | exact Nat.ne_of_gt wz.2.2.2.2.2 | exact wz.2.2.2.2.2.1.1 | exact Ne.symm wz.2.2.2.2.2.1.1 | exact wz.2.2.2.2.2.1.2.1 | exact Ne.symm wz.2.2.2.2.2.1.2.1 | exact wz.2.2.2.2.2.1.2.2 | exact Ne.symm wz.2.2.2.2.2.1.2.2 | exact wz.2.2.2.2.2.2.1 | exact Ne.symm wz.2.2.2.2.2.2.1 | exact Nat.ne_of_lt wz.2.2.2.2.2.2.1 | exact Nat.ne_of_gt wz.2.2.2.2.2.2.1 | exact wz.2.2.2.2.2.2 | exact Ne.symm wz.2.2.2.2.2.2 | exact Nat.ne_of_lt wz.2.2.2.2.2.2 | exact Nat.ne_of_gt wz.2.2.2.2.2.2 | exact wz.2.2.2.2.2.2.1.1 | exact Ne.symm wz.2.2.2.2.2.2.1.1 | exact wz.2.2.2.2.2.2.1.2.1 | exact Ne.symm wz.2.2.2.2.2.2.1.2.1 | exact wz.2.2.2.2.2.2.1.2.2 | exact Ne.symm wz.2.2.2.2.2.2.1.2.2 | exact wz.2.2.2.2.2.2.2.1 | exact Ne.symm wz.2.2.2.2.2.2.2.1 | exact Nat.ne_of_lt wz.2.2.2.2.2.2.2.1 | exact Nat.ne_of_gt wz.2.2.2.2.2.2.2.1 | exact wz.2.2.2.2.2.2.2 | exact Ne.symm wz.2.2.2.2.2.2.2 | exact Nat.ne_of_lt wz.2.2.2.2.2.2.2 | exact Nat.ne_of_gt wz.2.2.2.2.2.2.2 | exact wz.2.2.2.2.2.2.2.1.1 | exact Ne.symm wz.2.2.2.2.2.2.2.1.1 | exact wz.2.2.2.2.2.2.2.1.2.1 | exact Ne.symm wz.2.2.2.2.2.2.2.1.2.1 | exact wz.2.2.2.2.2.2.2.1.2.2 | exact Ne.symm wz.2.2.2.2.2.2.2.1.2.2 | exact wz.2.2.2.2.2.2.2.2.1 | exact Ne.symm wz.2.2.2.2.2.2.2.2.1 | exact Nat.ne_of_lt wz.2.2.2.2.2.2.2.2.1 | exact Nat.ne_of_gt wz.2.2.2.2.2.2.2.2.1 | exact wz.2.2.2.2.2.2.2.2 | exact Ne.symm wz.2.2.2.2.2.2.2.2 | exact Nat.ne_of_lt wz.2.2.2.2.2.2.2.2 | exact Nat.ne_of_gt wz.2.2.2.2.2.2.2.2 | exact wz.2.2.2.2.2.2.2.2.1.1 | exact Ne.symm wz.2.2.2.2.2.2.2.2.1.1 | exact wz.2.2.2.2.2.2.2.2.1.2.1 | exact Ne.symm wz.2.2.2.2.2.2.2.2.1.2.1 | exact wz.2.2.2.2.2.2.2.2.1.2.2 | exact Ne.symm wz.2.2.2.2.2.2.2.2.1.2.2 | exact wz.2.2.2.2.2.2.2.2.2.1 | exact Ne.symm wz.2.2.2.2.2.2.2.2.2.1 | exact Nat.ne_of_lt wz.2.2.2.2.2.2.2.2.2.1 | exact Nat.ne_of_gt wz.2.2.2.2.2.2.2.2.2.1 | exact wz.2.2.2.2.2.2.2.2.2 | exact Ne.symm wz.2.2.2.2.2.2.2.2.2 | exact Nat.ne_of_lt wz.2.2.2.2.2.2.2.2.2 | exact Nat.ne_of_gt wz.2.2.2.2.2.2.2.2.2 | exact wz.2.2.2.2.2.2.2.2.2.1.1 | exact Ne.symm wz.2.2.2.2.2.2.2.2.2.1.1 | exact wz.2.2.2.2.2.2.2.2.2.1.2.1 | exact Ne.symm wz.2.2.2.2.2.2.2.2.2.1.2.1 | exact wz.2.2.2.2.2.2.2.2.2.1.2.2 | exact Ne.symm wz.2.2.2.2.2.2.2.2.2.1.2.2 | exact wz.2.2.2.2.2.2.2.2.2.2.1 | exact Ne.symm wz.2.2.2.2.2.2.2.2.2.2.1 | exact Nat.ne_of_lt wz.2.2.2.2.2.2.2.2.2.2.1 | exact Nat.ne_of_gt wz.2.2.2.2.2.2.2.2.2.2.1 | exact wz.2.2.2.2.2.2.2.2.2.2 | exact Ne.symm wz.2.2.2.2.2.2.2.2.2.2 | exact Nat.ne_of_lt wz.2.2.2.2.2.2.2.2.2.2 | exact Nat.ne_of_gt wz.2.2.2.2.2.2.2.2.2.2 | exact wz.2.2.2.2.2.2.2.2.2.2.1.1 | exact Ne.symm wz.2.2.2.2.2.2.2.2.2.2.1.1 | exact wz.2.2.2.2.2.2.2.2.2.2.1.2.1 | exact Ne.symm wz.2.2.2.2.2.2.2.2.2.2.1.2.1 | exact wz.2.2.2.2.2.2.2.2.2.2.1.2.2 | exact Ne.symm wz.2.2.2.2.2.2.2.2.2.2.1.2.2 | exact wz.2.2.2.2.2.2.2.2.2.2.2.1 | exact Ne.symm wz.2.2.2.2.2.2.2.2.2.2.2.1 | exact Nat.ne_of_lt wz.2.2.2.2.2.2.2.2.2.2.2.1 | exact Nat.ne_of_gt wz.2.2.2.2.2.2.2.2.2.2.2.1 | exact wz.2.2.2.2.2.2.2.2.2.2.2 | exact Ne.symm wz.2.2.2.2.2.2.2.2.2.2.2 | exact Nat.ne_of_lt wz.2.2.2.2.2.2.2.2.2.2.2 | exact Nat.ne_of_gt wz.2.2.2.2.2.2.2.2.2.2.2 | exact wz.2.2.2.2.2.2.2.2.2.2.2.1.1 | exact Ne.symm wz.2.2.2.2.2.2.2.2.2.2.2.1.1 | exact wz.2.2.2.2.2.2.2.2.2.2.2.1.2.1 | exact Ne.symm wz.2.2.2.2.2.2.2.2.2.2.2.1.2.1 | exact wz.2.2.2.2.2.2.2.2.2.2.2.1.2.2 | exact Ne.symm wz.2.2.2.2.2.2.2.2.2.2.2.1.2.2 | exact wz.2.2.2.2.2.2.2.2.2.2.2.2.1 | exact Ne.symm wz.2.2.2.2.2.2.2.2.2.2.2.2.1 | exact Nat.ne_of_lt wz.2.2.2.2.2.2.2.2.2.2.2.2.1 | exact Nat.ne_of_gt wz.2.2.2.2.2.2.2.2.2.2.2.2.1 | exact wz.2.2.2.2.2.2.2.2.2.2.2.2 | exact Ne.symm wz.2.2.2.2.2.2.2.2.2.2.2.2 | exact Nat.ne_of_lt wz.2.2.2.2.2.2.2.2.2.2.2.2 | exact Nat.ne_of_gt wz.2.2.2.2.2.2.2.2.2.2.2.2 | exact wz.2.2.2.2.2.2.2.2.2.2.2.2.1.1 | exact Ne.symm wz.2.2.2.2.2.2.2.2.2.2.2.2.1.1 | exact wz.2.2.2.2.2.2.2.2.2.2.2.2.1.2.1 | exact Ne.symm wz.2.2.2.2.2.2.2.2.2.2.2.2.1.2.1 | exact wz.2.2.2.2.2.2.2.2.2.2.2.2.1.2.2 | exact Ne.symm wz.2.2.2.2.2.2.2.2.2.2.2.2.1.2.2 | exact wz.2.2.2.2.2.2.2.2.2.2.2.2.2.1 | exact Ne.symm wz.2.2.2.2.2.2.2.2.2.2.2.2.2.1 | exact Nat.ne_of_lt wz.2.2.2.2.2.2.2.2.2.2.2.2.2.1 | exact Nat.ne_of_gt wz.2.2.2.2.2.2.2.2.2.2.2.2.2.1 | exact wz.2.2.2.2.2.2.2.2.2.2.2.2.2 | exact Ne.symm wz.2.2.2.2.2.2.2.2.2.2.2.2.2 | exact Nat.ne_of_lt wz.2.2.2.2.2.2.2.2.2.2.2.2.2 | exact Nat.ne_of_gt wz.2.2.2.2.2.2.2.2.2.2.2.2.2 | exact wz.2.2.2.2.2.2.2.2.2.2.2.2.2.1.1 | exact Ne.symm wz.2.2.2.2.2.2.2.2.2.2.2.2.2.1.1 | exact wz.2.2.2.2.2.2.2.2.2.2.2.2.2.1.2.1 | exact Ne.symm wz.2.2.2.2.2.2.2.2.2.2.2.2.2.1.2.1 | exact wz.2.2.2.2.2.2.2.2.2.2.2.2.2.1.2.2 | exact Ne.symm wz.2.2.2.2.2.2.2.2.2.2.2.2.2.1.2.2 | clear wz))); done)
  k_with "om" => ((fail_if_success (with_reducible rename OmMark => x9)); first | decide | exact le_lit (by with_reducible assumption) rfl | exact room1 (by with_reducible assumption) rfl | exact room2 (by with_reducible assumption) rfl | exact room3 (by with_reducible assumption) rfl | ((have m9 : OmMark := OmMark.mk); (first | (with_reducible rename _ ∧ _ => z9; clear z9) | (with_reducible rename @Ne _ _ _ => z9; clear z9)); (repeat (with_reducible rename _ ∧ _ => z9; clear z9)); (repeat (with_reducible rename @Ne _ _ _ => z9; clear z9)); omega))
  k_with "call ref" => (k_here; (with_reducible show wpAny _ _ (call (Value.ref 231) [Value.ref _, Value.int _ _]) _ _ _); k_dflt (refine' draw_use ?w0wB ?w0wF ?w0wX ?w0wN ?w0wT ?w0whk ?w0wU ?w0whD ?w0whc ?w0whcd ?w0whI ?w0whl1 ?w0whl2 ?w0whk0 ?w0whk1 ?w0whm0 ?w0whm1 ?w0whdp ?_; (case w0wB => k_asm); (case w0wF => k_asm); (case w0wX => k_asm); (case w0wN => k_asm); (case w0wT => k_asm); (case w0whk => first | exact rfl | assumption); (case w0whD => assumption); (case w0wU => k_updF); (case w0whc => k_mem); (case w0whcd => k_ne); (case w0whI => assumption); (case w0whl1 => assumption); (case w0whl2 => assumption); (case w0whk0 => omega); (case w0whk1 => omega); (case w0whm0 => omega); (case w0whm1 => omega); (case w0whdp => ktr_room)); intro w0wr' w0wt' w0wo' w0wk' w0wh' w0wtk' w0whr0' w0whr1' w0wF' w0wN' w0whd'; (try dsimp only at w0wN'))
  k_with "CompSrc" => (k_here; k_dflt (refine LCg.CompSrc.range (by rfl) (by k_asm) (by k_asm) (by assumption) (by first | exact small_one (by kcf_bnd) (by kcf_bnd) (by kcf_bnd) (by kcf_bnd) | decide) (by first | exact rangeSize_nat _ _ | rfl) (by first | exact Nat.le_of_ble_eq_true rfl | (rw [PySem.sizeLine_eq]; omega)) ?_; intro w1wg'; refine' comp_draw 4 ?w1whD ?w1whm ?w1wU (fun w1wi' w1wo' w1wt' w1wys' w1wrs' w1wv' w1wI' w1woI' w1wC' w1woC' w1wD' w1wm' w1wh' w1wtk' w1wE' w1whi' w1whv' w1whD' w1whIs' w1whrl' w1whrs' w1whC' w1whx' w1wF' w1wN' w1woff' w1wne' => ?_) (fun w1wys' w1wrs' w1wo' w1wt' w1whIs' w1whrl' w1whrs' w1whD' => ?_); (case w1whD => assumption); (case w1whm => k_mem); (case w1wU => k_updF); (all_goals (try dsimp only at w1wN' w1woff')); (all_goals (try simp only [LCg.Off3, and_true] at w1woff')); (all_goals (try dsimp only))))
  k_with "CompEnd" => (refine' compEnd_draw ?w2wF ?w2wN ?w2woff ?w2whS ?w2whD ?w2wh0 ?w2wh1; (case w2wF => assumption); (case w2wN => assumption); (case w2woff => ((try dsimp only); simp only [LCg.Off3, and_true]; assumption)); (case w2whS => first | exact True.intro | assumption); (case w2whD => assumption); (case w2wh0 => assumption); (case w2wh1 => assumption))
  revert X
  k_fill
  intro X
  refine wpAny_call ?_
  k_dflt (refine' code_defC ?k1 ?k2 ?k3 ?k4 ?k5 ?kA ?kF ?kK ?k6 ?k7 ?k8 ?k9 ?kB ?kD ?_ ?c2 ?c3 ?c4; (case kA => exact rfl); (case kF => exact rfl); (case kK => first | exact rfl | assumption); (case k1 => k_asm); (case k2 => k_asm); (case k3 => k_asm); (case k4 => k_asm); (case k5 => k_asm); (case k6 => k_is); (case k7 => k_is); (case k8 => ktr_room); (case k9 => exact BindsTo.of_eq rfl); (case kB => exact rfl); (case kD => decide +kernel); (case c2 => exact rfl); (case c3 => exact rfl); (case c4 => exact rfl); k_whole; intro g' L' h' tk' cells' FG' F' N' Y' B' X' T' l1; (try k_lt l1); k_cells Y'; (try simp only [List.cons_append, List.nil_append] at N'); (try dsimp only); (try k_lift B'); (try k_fold))
  k_steps
  rename_i kN _ _
  refine hret _ _ _ _ _ _ _ _ (by assumption) (by omega) (by assumption) ?_ ?_ ?_ ?_ (by assumption) (kst_newsOf kN fun p hp => ?_) (by assumption)
  · omega
  · omega
  · exact news_tup_dict kN (.head _) (.tail _ (.tail _ (.tail _ (.head _)))) (by assumption)
  · exact news_tup_list kN (.head _) (.tail _ (.tail _ (.tail _ (.tail _ (.head _)))))
  · rcases List.mem_cons.mp hp with rfl | hp
    · exact .head _
    · exact .tail _ (.tail _ (.tail _ hp))
theorem row_use {w : World} {mean : ExcName → Option Value} {mg mb : Str → Option Value} {dp un : Nat} {gd : Option (List Code)} {cn : Str} {cs : Scope} {a : Addr} {ccd : Value} {cl : List (Str × Addr)} {outer : List Env} {A₀ : Around} {base h₀ : Heap} {L : Addr} {m : Str → Option Value} {s : Shared} {Q E : Value → Shared → Prop}
    {d c : Addr} {o : Obj} {news : List (Addr × Obj)} {g : Obj → List (Addr × Obj)} {k : Int} {tk : Tok} {ws : List Value} {ns : List Int} {n : Nat}
    (B : Below A₀ base outer h₀) (F : Fr h₀ L s.heap m) (X : (hd.heap_39 w.params).In h₀) (N : News h₀ L s.heap news) (T : Top hd.view_39 (looseW hd.view_39 []) mean mg mb h₀) (hk : cs.kind = .function)
    (U : UpdF d o news g) (hD : o.IsDictOf (PySem.strKind PySem.Challenge.rw_nz0011_01.row.prog w) (srcKV c k tk)) (hc : (c, listOf ws.toArray n) ∈ news) (hcd : c ≠ d) (hI : IntsAre ws ns) (hl1 : 1 ≤ ns.length) (hl2 : ns.length ≤ 63) (hk0 : 0 ≤ k) (hk1 : k ≤ 900)
    (hdp : dp + 3 < recursionLimit)
    (hret : ∀ x vs rs k' t' o' h' tk', IntsAre vs rs → rs.length ≤ 3 → (∀ r ∈ rs, 0 ≤ r ∧ r < 4) → k ≤ k' → k' ≤ k + 4 → @Ne Nat x d → Fr h₀ L h' m → News h₀ L h' ((x, { cls := .type "tuple", data := .seq vs.toArray }) :: g o') → o'.IsDictOf (PySem.strKind PySem.Challenge.rw_nz0011_01.row.prog w) (srcKV c k' t') → Q (.ref x) { s with heap := h', toks := tk' }) :
    wpAny (model PySem.Challenge.rw_nz0011_01.row.prog w) (ktrTop dp un gd cn cs L a ccd cl outer) (call (.ref 241) [.ref d]) Q E s := by
  obtain ⟨pre, post, rfl, hg, hpre, hpost⟩ := U.split
  refine row_tells (rest := pre ++ post) (n := n) B F X (fun p hp => ?_) T hk (fun p hp => ?_) hD hcd hI hl1 hl2 hk0 hk1 hdp (fun x vs rs k' t' o' h' tk' i1 i2 i3 i4 i5 i6 _ F' N' hD' => hret x vs rs k' t' o' h' tk' i1 i2 i3 i4 i5 i6 F' (hg o' ▸ fun p hp => ?_) hD')
  · rcases List.mem_cons.mp hp with rfl | hp
    · exact N _ (List.mem_append_right _ (.head _))
    · rcases List.mem_cons.mp hp with rfl | hp
      · exact N _ hc
      · exact N _ ((List.mem_append.mp hp).elim (fun h => List.mem_append_left _ h) fun h => List.mem_append_right _ (.tail _ h))
  · exact (List.mem_append.mp hp).elim (hpre p) (hpost p)
  · refine N' p ?_
    rcases List.mem_cons.mp hp with rfl | hp
    · exact .head _
    rcases List.mem_append.mp hp with h | h
    · exact .tail _ (.tail _ (.tail _ (List.mem_append_left _ h)))
    · rcases List.mem_cons.mp h with rfl | h
      · exact .tail _ (.head _)
      · exact .tail _ (.tail _ (.tail _ (List.mem_append_right _ h)))
end
section
theorem sub_two {M : Model} {A : Around} {v sl : Expr} {l : Addr} {r : Int} {tk : Tok} {Q : Value → Shared → Prop} {E : Value → Shared → Prop} {s : Shared} (h0 : 2 ≤ r) (h1 : r < 4)
    (hA : r = 2 → wpAny M A (subscriptTail v sl (.ref l) (.int 0 tk)) Q E s) (hB : r = 3 → wpAny M A (subscriptTail v sl (.ref l) (.int 1 tk)) Q E s) :
    wpAny M A (subscriptTail v sl (.ref l) (.int (r - 2) tk)) Q E s := by
  obtain rfl | rfl : r = 2 ∨ r = 3 := by omega
  · exact hA rfl
  · exact hB rfl
theorem told_tells {w : World} {mean : ExcName → Option Value} {mg mb : Str → Option Value} {dp un : Nat} {gd : Option (List Code)} {cn : Str} {cs : Scope} {a : Addr} {ccd : Value} {cl : List (Str × Addr)} {outer : List Env} {A₀ : Around} {base h₀ : Heap} {L : Addr} {m : Str → Option Value} {s : Shared} {Q E : Value → Shared → Prop}
    {d c : Addr} {o : Obj} {rest : List (Addr × Obj)} {k : Int} {tk : Tok} {ws : List Value} {ns : List Int} {n : Nat}
    (B : Below A₀ base outer h₀) (F : Fr h₀ L s.heap m) (X : (hd.heap_39 w.params).In h₀) (N : News h₀ L s.heap ((d, o) :: (c, listOf ws.toArray n) :: rest)) (T : Top hd.view_39 (looseW hd.view_39 []) mean mg mb h₀) (hk : cs.kind = .function)
    (hoff : ∀ p ∈ rest, p.1 ≠ d) (hD : o.IsDictOf (PySem.strKind PySem.Challenge.rw_nz0011_01.row.prog w) (srcKV c k tk)) (hcd : c ≠ d) (hI : IntsAre ws ns) (hl1 : 1 ≤ ns.length) (hl2 : ns.length ≤ 63) (hk0 : 0 ≤ k) (hk1 : k ≤ 800)
    (hdp : dp + 5 < recursionLimit)
    (ret0 : ∀ p T x vs rs tks k' t' o' h' tk', News h₀ L h' ((p, tupO [.ref T, .ref x]) :: (T, tupO [.str (Str.ofString "increasing") tks, .ref x]) :: (x, tupO vs) :: (d, o') :: (c, listOf ws.toArray n) :: rest) → o'.IsDictOf (PySem.strKind PySem.Challenge.rw_nz0011_01.row.prog w) (srcKV c k' t') → IntsAre vs rs → rs.length ≤ 3 → (∀ r ∈ rs, 0 ≤ r ∧ r < 4) → k ≤ k' → k' ≤ k + 12 → @Ne Nat x d → @Ne Nat T d → @Ne Nat p d → Fr h₀ L h' m → Q (.ref p) { s with heap := h', toks := tk' })
    (ret1 : ∀ p T x vs rs a ta b tb tks k' t' o' h' tk', News h₀ L h' ((p, tupO [.ref T, .ref x]) :: (T, tupO [.str (Str.ofString "precede") tks, .int a ta, .int b tb, .ref x]) :: (x, tupO vs) :: (d, o') :: (c, listOf ws.toArray n) :: rest) → o'.IsDictOf (PySem.strKind PySem.Challenge.rw_nz0011_01.row.prog w) (srcKV c k' t') → IntsAre vs rs → rs.length ≤ 3 → (∀ r ∈ rs, 0 ≤ r ∧ r < 4) → 0 ≤ a → a < 3 → 0 ≤ b → b < 3 → k ≤ k' → k' ≤ k + 12 → @Ne Nat x d → @Ne Nat T d → @Ne Nat p d → Fr h₀ L h' m → Q (.ref p) { s with heap := h', toks := tk' })
    (ret2 : ∀ (st : Bool) p T z x y vs rs us qs nm tks k' t' o' h' tk', News h₀ L h' ((p, tupO [.ref T, .ref z]) :: (z, tupO (vs ++ us)) :: (T, tupO [.str nm tks, .ref x, .ref y]) :: (y, tupO us) :: (x, tupO vs) :: (d, o') :: (c, listOf ws.toArray n) :: rest) → o'.IsDictOf (PySem.strKind PySem.Challenge.rw_nz0011_01.row.prog w) (srcKV c k' t') → nm = (if st then Str.ofString "lex_lt" else Str.ofString "lex_le") → IntsAre vs rs → rs.length ≤ 3 → (∀ r ∈ rs, 0 ≤ r ∧ r < 4) → IntsAre us qs → qs.length ≤ 3 → (∀ r ∈ qs, 0 ≤ r ∧ r < 4) → IntsAre (vs ++ us) (rs ++ qs) → k ≤ k' → k' ≤ k + 12 → @Ne Nat x d → @Ne Nat y d → @Ne Nat z d → @Ne Nat T d → @Ne Nat p d → Fr h₀ L h' m → Q (.ref p) { s with heap := h', toks := tk' }) :
    wpAny (model PySem.Challenge.rw_nz0011_01.row.prog w) (ktrTop dp un gd cn cs L a ccd cl outer) (call (.ref 248) [.ref d]) Q E s := by
  w_top off
  k_with_none
  k_with "ne" => (refine neN ?_; (try dsimp only); (first | with_reducible assumption | (with_reducible refine Ne.symm ?_; assumption) | (repeat (with_reducible rename _ ∧ _ => wz; first | exact wz.1 | exact Ne.symm wz.1 | exact Nat.ne_of_lt wz.1 | exact Nat.ne_of_gt wz.1 | exact wz.1.1 | exact Ne.symm wz.1.1 | exact wz.1.2.1 | exact Ne.symm wz.1.2.1 | exact wz.1.2.2 | exact Ne.symm wz.1.2.2 | exact wz.2.1 | exact Ne.symm wz.2.1 | exact Nat.ne_of_lt wz.2.1 | exact Nat.ne_of_gt wz.2.1 | exact wz.2 | exact Ne.symm wz.2 | exact Nat.ne_of_lt wz.2 | exact Nat.ne_of_gt wz.2 | exact wz.2.1.1 | exact Ne.symm wz.2.1.1 | exact wz.2.1.2.1 | exact Ne.symm wz.2.1.2.1 | exact wz.2.1.2.2 | exact Ne.symm wz.2.1.2.2 | exact wz.2.2.1 | exact Ne.symm wz.2.2.1 | exact Nat.ne_of_lt wz.2.2.1 | exact Nat.ne_of_gt wz.2.2.1 | exact wz.2.2 | exact Ne.symm wz.2.2 | exact Nat.ne_of_lt wz.2.2 | exact Nat.ne_of_gt wz.2.2 | exact wz.2.2.1.1 | exact Ne.symm wz.2.2.1.1 | exact wz.2.2.1.2.1 | exact Ne.symm wz.2.2.1.2.1 | exact wz.2.2.1.2.2 | exact Ne.symm wz.2.2.1.2.2 | exact wz.2.2.2.1 | exact Ne.symm wz.2.2.2.1 | exact Nat.ne_of_lt wz.2.2.2.1 | exact Nat.ne_of_gt wz.2.2.2.1 | exact wz.2.2.2 | exact Ne.symm wz.2.2.2 | exact Nat.ne_of_lt wz.2.2.2 | exact Nat.ne_of_gt wz.2.2.2 | exact wz.2.2.2.1.1 | exact Ne.symm wz.2.2.2.1.1 | exact wz.2.2.2.1.2.1 | exact Ne.symm wz.2.2.2.1.2.1 | exact wz.2.2.2.1.2.2 | exact Ne.symm wz.2.2.2.1.2.2 | exact wz.2.2.2.2.1 | exact Ne.symm wz.2.2.2.2.1 | exact Nat.ne_of_lt wz.2.2.2.2.1 | exact Nat.ne_of_gt wz.2.2.2.2.1 | exact wz.2.2.2.2 | exact Ne.symm wz.2.2.2.2 | exact Nat.ne_of_lt wz.2.2.2.2 | exact Nat.ne_of_gt wz.2.2.2.2 | exact wz.2.2.2.2.1.1 | exact Ne.symm wz.2.2.2.2.1.1 | exact wz.2.2.2.2.1.2.1 | exact Ne.symm wz.2.2.2.2.1.2.1 | exact wz.2.2.2.2.1.2.2 | exact Ne.symm wz.2.2.2.2.1.2.2 | exact wz.2.2.2.2.2.1 | exact Ne.symm wz.2.2.2.2.2.1 | exact Nat.ne_of_lt wz.2.2.2.2.2.1 | exact Nat.ne_of_gt wz.2.2.2.2.2.1 | exact wz.2.2.2.2.2 | exact Ne.symm wz.2.2.2.2.2 | exact Nat.ne_of_lt wz.2.2.2.2.2 | exact Nat.ne_of_gt wz.2.2.2.2.2 | exact wz.2.2.2.2.2.1.1 | exact Ne.symm wz.2.2.2.2.2.1.1 | exact wz.2.2.2.2.2.1.2.1 | exact Ne.symm wz.2.2.2.2.2.1.2.1 | exact wz.2.2.2.2.2.1.2.2 | exact Ne.symm wz.2.2.2.2.2.1.2.2 | exact wz.2.2.2.2.2.2.1 | exact Ne.symm wz.2.2.2.2.2.2.1 | exact Nat.ne_of_lt wz.2.2.2.2.2.2.1 | exact Nat.ne_of_gt wz.2.2.2.2.2.2.1 | exact wz.2.2.2.2.2.2 | exact Ne.symm wz.2.2.2.2.2.2 | exact Nat.ne_of_lt wz.2.2.2.2.2.2 | exact Nat.ne_of_gt wz.2.2.2.2.2.2 | exact wz.2.2.2.2.2.2.1.1 | exact Ne.symm wz.2.2.2.2.2.2.1.1 | exact wz.2.2.2.2.2.2.1.2.1 | exact Ne.symm wz.2.2.2.2.2.2.1.2.1 | exact wz.2.2.2.2.2.2.1.2.2 | exact Ne.symm wz.2.2.2.2.2.2.1.2.2 | exact wz.2.2.2.2.2.2.2.1 | exact Ne.symm wz.2.2.2.2.2.2.2.1 | exact Nat.ne_of_lt wz.2.2.2.2.2.2.2.1 | exact Nat.ne_of_gt wz.2.2.2.2.2.2.2.1 | exact wz.2.2.2.2.2.2.2 | exact Ne.symm wz.2.2.2.2.2.2.2 | exact Nat.ne_of_lt wz.2.2.2.2.2.2.2 | exact Nat.ne_of_gt wz.2.2.2.2.2.2.2 | exact wz.2.2.2.2.2.2.2.1.1 | exact Ne.symm wz.2.2.2.2.2.2.2.1.1 | exact wz.2.2.2.2.2.2.2.1.2.1 | exact Ne.symm wz.2.2.2.2.2.2.2.1.2.1 | exact wz.2.2.2.2.2.2.2.1.2.2 | exact Ne.symm wz.2.2.2.2.2.2.2.1.2.2 | exact wz.2.2.2.2.2.2.2.2.1 | exact Ne.symm wz.2.2.2.2.2.2.2.2.1 | exact Nat.ne_of_lt wz.2.2.2.2.2.2.2.2.1 | exact Nat.ne_of_gt wz.2.2.2.2.2.2.2.2.1 | exact wz.2.2.2.2.2.2.2.2 | exact Ne.symm wz.2.2.2.2.2.2.2.2 | exact Nat.ne_of_lt wz.2.2.2.2.2.2.2.2 | exact Nat.ne_of_gt wz.2.2.2.2.2.2.2.2 | exact wz.2.2.2.2.2.2.2.2.1.1 | exact Ne.symm wz.2.2.2.2.2.2.2.2.1.1 | exact wz.2.2.2.2.2.2.2.2.1.2.1 | exact Ne.symm wz.2.2.2.2.2.2.2.2.1.2.1 | exact wz.2.2.2.2.2.2.2.2.1.2.2 | exact Ne.symm wz.2.2.2.2.2.2.2.2.1.2.2 | exact wz.2.2.2.2.2.2.2.2.2.1 | exact Ne.symm wz.2.2.2.2.2.2.2.2.2.1 | exact Nat.ne_of_lt wz.2.2.2.2.2.2.2.2.2.1 | exact Nat.ne_of_gt wz.2.2.2.2.2.2.2.2.2.1 | exact wz.2.2.2.2.2.2.2.2.2 | exact Ne.symm wz.2.2.2.2.2.2.2.2.2 | exact Nat.ne_of_lt wz.2.2.2.2.2.2.2.2.2 | exact Nat.ne_of_gt wz.2.2.2.2.2.2.2.2.2 | exact wz.2.2.2.2.2.2.2.2.2.1.1 | exact Ne.symm wz.2.2.2.2.2.2.2.2.2.1.1 | exact wz.2.2.2.2.2.2.2.2.2.1.2.1 | exact Ne.symm wz.2.2.2.2.2.2.2.2.2.1.2.1 | exact wz.2.2.2.2.2.2.2.2.2.1.2.2 | exact Ne.symm wz.2.2.2.2.2.2.2.2.2.1.2.2 | exact wz.2.2.2.2.2.2.2.2.2.2.1 | exact Ne.symm wz.2.2.2.2.2.2.2.2.2.2.1 | exact Nat.ne_of_lt wz.2.2.2.2.2.2.2.2.2.2.1 | exact Nat.ne_of_gt wz.2.2.2.2.2.2.2.2.2.2.1 | exact wz.2.2.2.2.2.2.2.2.2.2 | exact Ne.symm wz.2.2.2.2.2.2.2.2.2.2 | exact Nat.ne_of_lt wz.2.2.2.2.2.2.2.2.2.2 | exact Nat.ne_of_gt wz.2.2.2.2.2.2.2.2.2.2 | exact wz.2.2.2.2.2.2.2.2.2.2.1.1 | exact Ne.symm wz.2.2.2.2.2.2.2.2.2.2.1.1 | exact wz.2.2.2.2.2.2.2.2.2.2.1.2.1 | exact Ne.symm wz.2.2.2.2.2.2.2.2.2.2.1.2.1 | exact wz.2.2.2.2.2.2.2.2.2.2.1.2.2 | exact Ne.symm wz.2.2.2.2.2.2.2.2.2.2.1.2.2 | exact wz.2.2.2.2.2.2.2.2.2.2.2.1 | exact Ne.symm wz.2.2.2.2.2.2.2.2.2.2.2.1 | exact Nat.ne_of_lt wz.2.2.2.2.2.2.2.2.2.2.2.1 | exact Nat.ne_of_gt wz.2.2.2.2.2.2.2.2.2.2.2.1 | exact wz.2.2.2.2.2.2.2.2.2.2.2 | exact Ne.symm wz.2.2.2.2.2.2.2.2.2.2.2 | exact Nat.ne_of_lt wz.2.2.2.2.2.2.2.2.2.2.2 | exact Nat.ne_of_gt wz.2.2.2.2.2.2.2.2.2.2.2 | exact wz.2.2.2.2.2.2.2.2.2.2.2.1.1 | exact Ne.symm wz.2.2.2.2.2.2.2.2.2.2.2.1.1 | exact wz.2.2.2.2.2.2.2.2.2.2.2.1.2.1 | exact Ne.symm wz.2.2.2.2.2.2.2.2.2.2.2.1.2.1 | exact wz.2.2.2.2.2.2.2.2.2.2.2.1.2.2 | exact Ne.symm wz.2.2.2.2.2.2.2.2.2.2.2.1.2.2 | exact wz.2.2.2.2.2.2.2.2.2.2.2.2.1 | exact Ne.symm wz.2.2.2.2.2.2.2.2.2.2.2.2.1 | exact Nat.ne_of_lt wz.2.2.2.2.2.2.2.2.2.2.2.2.1 | exact Nat.ne_of_gt wz.2.2.2.2.2.2.2.2.2.2.2.2.1 | exact wz.2.2.2.2.2.2.2.2.2.2.2.2 | exact Ne.symm wz.2.2.2.2.2.2.2.2.2.2.2.2 | exact Nat.ne_of_lt wz.2.2.2.2.2.2.2.2.2.2.2.2 | exact Nat.ne_of_gt wz.2.2.2.2.2.2.2.2.2.2.2.2 | exact wz.2.2.2.2.2.2.2.2.2.2.2.2.1.1 | exact Ne.symm wz.2.2.2.2.2.2.2.2.2.2.2.2.1.1 | exact wz.2.2.2.2.2.2.2.2.2.2.2.2.1.2.1 | exact Ne.symm wz.2.2.2.2.2.2.2.2.2.2.2.2.1.2.1 | exact wz.2.2.2.2.2.2.2.2.2.2.2.2.1.2.2 | exact Ne.symm wz.2.2.2.2.2.2.2.2.2.2.2.2.1.2.2 | exact wz.2.2.2.2.2.2.2.2.2.2.2.2.2.1 | exact Ne.symm wz.2.2.2.2.2.2.2.2.2.2.2.2.2.1 | exact Nat.ne_of_lt wz.2.2.2.2.2.2.2.2.2.2.2.2.2.1 | exact Nat.ne_of_gt wz.2.2.2.2.2.2.2.2.2.2.2.2.2.1 | exact wz.2.2.2.2.2.2.2.2.2.2.2.2.2 | exact Ne.symm wz.2.2.2.2.2.2.2.2.2.2.2.2.2 | exact Nat.ne_of_lt wz.2.2.2.2.2.2.2.2.2.2.2.2.2 | exact Nat.ne_of_gt wz.2.2.2.2.2.2.2.2.2.2.2.2.2 | exact wz.2.2.2.2.2.2.2.2.2.2.2.2.2.1.1 | exact Ne.symm wz.2.2.2.2.2.2.2.2.2.2.2.2.2.1.1 | exact wz.2.2.2.2.2.2.2.2.2.2.2.2.2.1.2.1 | exact Ne.symm wz.2.2.2.2.2.2.2.2.2.2.2.2.2.1.2.1 | exact wz.2.2.2.2.2.2.2.2.2.2.2.2.2.1.2.2 | exact Ne.symm wz.2.2.2.2.2.2.2.2.2.2.2.2.2.1.2.2 | clear wz))); done)
  k_with "om" => ((fail_if_success (with_reducible rename OmMark => x9)); first | decide | exact le_lit (by with_reducible assumption) rfl | exact room1 (by with_reducible assumption) rfl | exact room2 (by with_reducible assumption) rfl | exact room3 (by with_reducible assumption) rfl | ((have m9 : OmMark := OmMark.mk); (first | (with_reducible rename _ ∧ _ => z9; clear z9) | (with_reducible rename @Ne _ _ _ => z9; clear z9)); (repeat (with_reducible rename _ ∧ _ => z9; clear z9)); (repeat (with_reducible rename @Ne _ _ _ => z9; clear z9)); omega))
  k_with "call ref" => (k_here; (with_reducible show wpAny _ _ (call (Value.ref 231) [Value.ref _, Value.int _ _]) _ _ _); k_dflt (refine' draw_use ?w0wB ?w0wF ?w0wX ?w0wN ?w0wT ?w0whk ?w0wU ?w0whD ?w0whc ?w0whcd ?w0whI ?w0whl1 ?w0whl2 ?w0whk0 ?w0whk1 ?w0whm0 ?w0whm1 ?w0whdp ?_; (case w0wB => k_asm); (case w0wF => k_asm); (case w0wX => k_asm); (case w0wN => k_asm); (case w0wT => k_asm); (case w0whk => first | exact rfl | assumption); (case w0whD => assumption); (case w0wU => k_updF); (case w0whc => k_mem); (case w0whcd => k_ne); (case w0whI => assumption); (case w0whl1 => assumption); (case w0whl2 => assumption); (case w0whk0 => omega); (case w0whk1 => omega); (case w0whm0 => omega); (case w0whm1 => omega); (case w0whdp => ktr_room)); intro w0wr' w0wt' w0wo' w0wk' w0wh' w0wtk' w0whr0' w0whr1' w0wF' w0wN' w0whd'; (try dsimp only at w0wN'))
  k_with "call ref" => (k_here; (with_reducible show wpAny _ _ (call (Value.ref 241) [Value.ref _]) _ _ _); k_dflt (refine' row_use ?w1wB ?w1wF ?w1wX ?w1wN ?w1wT ?w1whk ?w1wU ?w1whD ?w1whc ?w1whcd ?w1whI ?w1whl1 ?w1whl2 ?w1whk0 ?w1whk1 ?w1whdp ?_; (case w1wB => k_asm); (case w1wF => k_asm); (case w1wX => k_asm); (case w1wN => k_asm); (case w1wT => k_asm); (case w1whk => first | exact rfl | assumption); (case w1whD => assumption); (case w1wU => k_updF); (case w1whc => k_mem); (case w1whcd => k_ne); (case w1whI => assumption); (case w1whl1 => assumption); (case w1whl2 => assumption); (case w1whk0 => omega); (case w1whk1 => omega); (case w1whdp => ktr_room)); intro w1wx' w1wvs' w1wrs' w1wk' w1wt' w1wo' w1wh' w1wtk' w1whI' w1whrl' w1whrs' w1whk0' w1whk1' w1whxd' w1wF' w1wN' w1whd'; (try dsimp only at w1wN'))
  k_with "subscriptTail" => (k_here; (with_reducible show wpAny _ _ (subscriptTail _ _ (Value.ref _) (Value.int (_ - 2) _)) _ _ _); (refine' sub_two ?w2wa ?w2wb ?_ ?_; (case w2wa => omega); (case w2wb => omega)); all_goals intro w2whkind')
  k_with "binaryOp Add" => (k_here; (with_reducible show wpAny _ _ (binaryOp _ (Value.ref _) (Value.ref _)) _ _ _); k_dflt (refine' tup_add ?w3wF ?w3wN ?w3wht ?w3whb ?w3whi ?w3whj ?w3whl ?w3whl' ?w3whD ?w3whd ?_; (case w3wF => k_asm); (case w3wN => k_asm); (case w3wht => k_mem); (case w3whb => k_mem); (case w3whi => assumption); (case w3whj => assumption); (case w3whl => omega); (case w3whl' => omega); (case w3whD => assumption); (case w3whd => k_mem)); intro w3wz' w3wh' w3wF' w3wN' w3whI' w3whzd')
  revert X
  k_fill
  intro X
  refine wpAny_call ?_
  k_dflt cell_enter
  k_steps
  · rename_i kN _ _
    exact ret0 _ _ _ _ _ _ _ _ _ _ _ kN (by assumption) (by assumption) (by assumption) (by assumption) (by omega) (by omega) (by assumption) (news_tup_dict kN (by k_mem) (by k_mem) (by assumption)) (news_tup_dict kN (.head _) (by k_mem) (by assumption)) (by assumption)
  · rename_i kN _ _
    exact ret1 _ _ _ _ _ _ _ _ _ _ _ _ _ _ _ kN (by assumption) (by assumption) (by assumption) (by assumption) (by assumption) (by assumption) (by assumption) (by assumption) (by omega) (by omega) (by assumption) (news_tup_dict kN (.tail _ (.head _)) (by k_mem) (by assumption)) (news_tup_dict kN (.head _) (by k_mem) (by assumption)) (by assumption)
  · rename_i kN _ _
    exact ret2 false _ _ _ _ _ _ _ _ _ _ _ _ _ _ _ _ (kst_newsOf kN (by kcf_all)) (by assumption) rfl (by assumption) (by assumption) (by assumption) (by assumption) (by assumption) (by assumption) (by assumption) (by omega) (by omega) (by assumption) (by assumption) (by assumption) (news_tup_dict kN (.tail _ (.tail _ (.head _))) (by k_mem) (by assumption)) (news_tup_dict kN (.head _) (by k_mem) (by assumption)) (by assumption)
  · rename_i kN _ _
    exact ret2 true _ _ _ _ _ _ _ _ _ _ _ _ _ _ _ _ (kst_newsOf kN (by kcf_all)) (by assumption) rfl (by assumption) (by assumption) (by assumption) (by assumption) (by assumption) (by assumption) (by assumption) (by omega) (by omega) (by assumption) (by assumption) (by assumption) (news_tup_dict kN (.tail _ (.tail _ (.head _))) (by k_mem) (by assumption)) (news_tup_dict kN (.head _) (by k_mem) (by assumption)) (by assumption)
end
section
section
variable {prog : Program} {w : World} {A : Around} {E : Value → Shared → Prop} {s : Shared}
theorem nextOf_tup_item {it t : Addr} {i : Nat} {items : Array Value} {x : Value} {Q : Value → Shared → Prop} (hit : IsTupIter s.heap it t i) (ht : IsTup s.heap t items) (hx : items[i]? = some x)
    (hQ : ∀ h', IsTupIter h' it t (i + 1) → Heap.SameBut it s.heap h' → Q x { s with heap := h' }) :
    wpAny (model prog w) A (Builtin.SmallTypes.nextOf (.ref it)) Q E s := by
  obtain ⟨o, ho, hc, hd⟩ := id hit
  obtain ⟨ol, hol, _, nl, hdl⟩ := ht
  unfold Builtin.SmallTypes.nextOf
  refine wpAny_bind (wpAny_callSpecial?_slot (name := Str.ofString "__next__") hit.typeIs slot_tupleiter_next
    (wpAny_call_entry slot_tupleiter_next hit.typeIs entry_tupleiter_next ?_ (args_tupleiter_next _)))
  show wpAny _ _ (field (.ref it) 0 >>= _) _ _ s
  refine wpAny_bind (wpAny_field ho hd (x := .ref t) rfl ?_)
  show wpAny _ _ (if (Value.ref t == Value.none) = true then _ else _) _ _ s
  rw [if_neg (show ¬ ((Value.ref t == Value.none) = true) from Bool.false_ne_true)]
  show wpAny _ _ (field (.ref it) 1 >>= _) _ _ s
  refine wpAny_bind (wpAny_field ho hd (x := .int i 0) rfl ?_)
  show wpAny _ _ (seqItems? (.ref t) >>= _) _ _ s
  refine wpAny_bind (wpAny_seqItems hol hdl ?_)
  simp only [Int.toNat_natCast, hx]
  refine wpAny_bind (wpAny_setField ho hd (by simp) (wpAny_pure ⟨x, rfl, wpAny_pure (hQ _ ?_ (Heap.SameBut.update ..))⟩))
  exact ⟨_, Heap.get?_update_self _ ho (Obj.isFreed_of_fields (Obj.data_mapFields hd _)), (Obj.cls_mapFields ..).trans hc, by rw [Obj.data_mapFields hd]; simp [rawInt]⟩
theorem nextOf_tup_end {it t : Addr} {i : Nat} {items : Array Value} {Q : Value → Shared → Prop} (hh : A.handled = none) (hit : IsTupIter s.heap it t i) (ht : IsTup s.heap t items) (hx : items[i]? = none)
    (hE : ∀ h' e, Heap.ExtBut it s.heap h' → (∃ o, h'.get? e = some o ∧ o.cls = .type "StopIteration") → E (.ref e) { s with heap := h' }) :
    wpAny (model prog w) A (Builtin.SmallTypes.nextOf (.ref it)) Q E s := by
  obtain ⟨o, ho, hc, hd⟩ := id hit
  obtain ⟨ol, hol, _, nl, hdl⟩ := ht
  unfold Builtin.SmallTypes.nextOf
  refine wpAny_bind (wpAny_callSpecial?_slot (name := Str.ofString "__next__") hit.typeIs slot_tupleiter_next
    (wpAny_call_entry slot_tupleiter_next hit.typeIs entry_tupleiter_next ?_ (args_tupleiter_next _)))
  show wpAny _ _ (field (.ref it) 0 >>= _) _ _ s
  refine wpAny_bind (wpAny_field ho hd (x := .ref t) rfl ?_)
  show wpAny _ _ (if (Value.ref t == Value.none) = true then _ else _) _ _ s
  rw [if_neg (show ¬ ((Value.ref t == Value.none) = true) from Bool.false_ne_true)]
  show wpAny _ _ (field (.ref it) 1 >>= _) _ _ s
  refine wpAny_bind (wpAny_field ho hd (x := .int i 0) rfl ?_)
  show wpAny _ _ (seqItems? (.ref t) >>= _) _ _ s
  refine wpAny_bind (wpAny_seqItems hol hdl ?_)
  simp only [Int.toNat_natCast, hx]
  refine wpAny_bind (wpAny_rule (wpAny_bind (wpAny_setField ho hd (by simp) ?_)))
  show wpAny _ _ (newExc (.type "StopIteration") [] >>= _) _ _ _
  refine wpAny_bind ?_
  simp only [newExc, newTuple]
  refine wpAny_bind (wpAny_newObj_type ?_ (by size_fits))
  refine wpAny_bind (m := firstArgMember _ _) (wpAny_of_eq (a := Value.none) (by first | rfl | (simp only [firstArgMember]; rfl)) ?_)
  refine wpAny_newObj_type ?_ (by size_fits)
  simp only [raiseNew]
  refine wpAny_bind (wpAny_handled ?_)
  first | rw [show A.in1.handled = none from hh] | rw [hh]
  refine wpAny_bind (wpAny_pure (wpAny_throw ?_))
  exact hE _ _ (((Heap.SameBut.update ..).extBut.push _).push _) ⟨_, Heap.get?_push_size _ rfl, rfl⟩
noncomputable abbrev tiH1 (h : Heap) (l1 : Addr) : Heap := h.push { cls := .type "tuple_iterator", data := .fields #[.ref l1, .int 0 0] }
noncomputable abbrev tiH2 (h : Heap) (l1 l2 : Addr) : Heap := (tiH1 h l1).push { cls := .type "tuple_iterator", data := .fields #[.ref l2, .int 0 0] }
noncomputable abbrev tiH3 (h : Heap) (l1 l2 : Addr) : Heap := (tiH2 h l1 l2).push { cls := .type "tuple", data := .seq #[.ref h.objs.size, .ref (tiH1 h l1).objs.size] }
noncomputable abbrev tiH4 (h : Heap) (l1 l2 : Addr) : Heap := (tiH3 h l1 l2).push { cls := .type "tuple", data := .seq #[.none, .none] }
noncomputable abbrev tiH5 (h : Heap) (l1 l2 : Addr) : Heap := (tiH4 h l1 l2).push { cls := .type "zip", data := .fields #[.none, .bool false, .bool false, .ref (tiH2 h l1 l2).objs.size, .ref (tiH3 h l1 l2).objs.size] }
theorem meets_zip_tups (l1 l2 : Addr) (xs ys : Array Value) :
    Meets (Builtin.«zip.__new__» ⟨[.type "zip", .ref l1, .ref l2], []⟩) (fun _ R s => IsTup s.heap l1 xs ∧ IsTup s.heap l2 ys ∧
      R (.ok (.ret (.ref (tiH4 s.heap l1 l2).objs.size))) { s with heap := tiH5 s.heap l1 l2 }) :=
  .of_wp fun prog w A R s h => by
    obtain ⟨hp, g, d, tk, os⟩ := s; obtain ⟨hl1, hl2, h⟩ := h
    have hsub := sub_zip
    have hL1 : IsTup (Shared.heap ⟨hp, g, d, tk, os⟩) l1 xs := hl1
    have hL2 : IsTup (Shared.heap ⟨hp.push { cls := .type "tuple_iterator", data := .fields #[.ref l1, .int 0 0] }, g, d, tk, os⟩) l2 ys := IsTup.push hl2 _
    wp_walk using iter_tuple hL1, iter_tuple hL2
    exact ⟨_, rfl, h⟩
abbrev IsZipF (h : Heap) (z TI TO : Addr) (f0 f1 : Value) : Prop :=
  h.get? z = some { cls := .type "zip", dict := none, data := .fields #[f0, f1, .bool false, .ref TI, .ref TO], slots := #[] }
theorem call_zip_tups {l1 l2 : Addr} {xs ys : Array Value} {Q : Value → Shared → Prop} (hl1 : IsTup s.heap l1 xs) (hl2 : IsTup s.heap l2 ys)
    (h : ∀ h', IsZipF h' (s.heap.objs.size + 4) (s.heap.objs.size + 2) (s.heap.objs.size + 3) .none (.bool false) → IsPair h' (s.heap.objs.size + 2) (.ref s.heap.objs.size) (.ref (s.heap.objs.size + 1)) →
      IsPair h' (s.heap.objs.size + 3) .none .none → IsTupIter h' s.heap.objs.size l1 0 → IsTupIter h' (s.heap.objs.size + 1) l2 0 → h'.objs.size = s.heap.objs.size + 5 →
      (∀ c o, s.heap.get? c = some o → h'.get? c = some o) → Q (.ref (s.heap.objs.size + 4)) { s with heap := h' }) :
    wpAny (model prog w) A (call (.type "zip") [.ref l1, .ref l2]) Q E s := by
  refine callType_new F.called_zip (by decide) (F.typeCall_zip_2 _ _) (F.newCall_zip_2 _ _) (fun obj => F.args_object_init_3 obj _ _) F.entry_zip_new (meets_zip_tups l1 l2 xs ys) ⟨hl1, hl2, ?_⟩
  have z1 : (tiH1 s.heap l1).objs.size = s.heap.objs.size + 1 := Heap.size_push ..
  have z2 : (tiH2 s.heap l1 l2).objs.size = s.heap.objs.size + 2 := by rw [Heap.size_push, z1]
  have z3 : (tiH3 s.heap l1 l2).objs.size = s.heap.objs.size + 3 := by rw [Heap.size_push, z2]
  have z4 : (tiH4 s.heap l1 l2).objs.size = s.heap.objs.size + 4 := by rw [Heap.size_push, z3]
  have z5 : (tiH5 s.heap l1 l2).objs.size = s.heap.objs.size + 5 := by rw [Heap.size_push, z4]
  have g5 : (tiH5 s.heap l1 l2).get? (tiH4 s.heap l1 l2).objs.size = some _ := Heap.get?_push_size _ rfl
  have g4 : (tiH5 s.heap l1 l2).get? (tiH3 s.heap l1 l2).objs.size = some _ := Heap.get?_push_of_some _ (Heap.get?_push_size _ rfl)
  have g3 : (tiH5 s.heap l1 l2).get? (tiH2 s.heap l1 l2).objs.size = some _ := Heap.get?_push_of_some _ (Heap.get?_push_of_some _ (Heap.get?_push_size _ rfl))
  have g2 : (tiH5 s.heap l1 l2).get? (tiH1 s.heap l1).objs.size = some _ := Heap.get?_push_of_some _ (Heap.get?_push_of_some _ (Heap.get?_push_of_some _ (Heap.get?_push_size _ rfl)))
  have g1 : (tiH5 s.heap l1 l2).get? s.heap.objs.size = some _ := Heap.get?_push_of_some _ (Heap.get?_push_of_some _ (Heap.get?_push_of_some _ (Heap.get?_push_of_some _ (Heap.get?_push_size _ rfl))))
  show _ ∧ _
  rw [z2, z3, z4] at g5
  rw [z1, z2] at g3
  rw [z3] at g4
  rw [z1] at g2
  rw [z4]
  exact ⟨⟨_, g5, rfl⟩, h _ g5 g3 g4 ⟨_, g1, rfl, rfl⟩ ⟨_, g2, rfl, rfl⟩ z5 fun c o x =>
    Heap.get?_push_of_some _ (Heap.get?_push_of_some _ (Heap.get?_push_of_some _ (Heap.get?_push_of_some _ (Heap.get?_push_of_some _ x))))⟩
theorem wpAny_alive {M : Model} {a : Addr} {Q : Option Obj → Shared → Prop} (h : Q (s.heap.get? a) s) : wpAny M A (loadIfAlive a) Q E s := fun Γ p _ => by
  unfold loadIfAlive
  rw [Sem.wp_loadIfAlive]
  exact h
/-- the zip of two tuples, i items taken -/
structure ZSt (h : Heap) (z TI TO i1 i2 l1 l2 : Addr) (xs ys : Array Value) (i : Nat) : Prop where
  zip : ∃ f0 f1, IsZipF h z TI TO f0 f1 ∧ (f0 = .none ∨ ∃ T : Nat, f0 = rawInt T)
  ti : IsPair h TI (.ref i1) (.ref i2)
  to : ∃ a b, IsPair h TO a b
  it1 : IsTupIter h i1 l1 i
  it2 : IsTupIter h i2 l2 i
  t1 : IsTup h l1 xs
  t2 : IsTup h l2 ys
theorem tupIter_at {h h' : Heap} {a t : Addr} {i : Nat} (x : IsTupIter h a t i) (k : ∀ o, h.get? a = some o → h'.get? a = some o) : IsTupIter h' a t i := let ⟨o, ho, r⟩ := x; ⟨o, k o ho, r⟩
theorem tup_at {h h' : Heap} {t : Addr} {xs : Array Value} (x : IsTup h t xs) (k : ∀ o, h.get? t = some o → h'.get? t = some o) : IsTup h' t xs := let ⟨o, ho, r⟩ := x; ⟨o, k o ho, r⟩
/-- the owned tuple is free: it is filled anew -/
theorem zip_free_item {z TI TO i1 i2 l1 l2 : Addr} {k : Nat} {xs ys : Array Value} {x y a b f0 f1 : Value} {Q : Value → Shared → Prop} (D : ZipApart z TI TO i1 i2 l1 l2)
    (hz : IsZipF s.heap z TI TO f0 f1) (hf : f0 = .none ∨ ∃ T : Nat, f0 = rawInt T ∧ s.heap.get? T = none) (hTI : IsPair s.heap TI (.ref i1) (.ref i2)) (hTO : IsPair s.heap TO a b)
    (h1 : IsTupIter s.heap i1 l1 k) (h2 : IsTupIter s.heap i2 l2 k) (hl1 : IsTup s.heap l1 xs) (hl2 : IsTup s.heap l2 ys) (hx : xs[k]? = some x) (hy : ys[k]? = some y)
    (hQ : ∀ v h', ZSt h' z TI TO i1 i2 l1 l2 xs ys (k + 1) → (∀ c o, c ≠ z → c ≠ TO → c ≠ i1 → c ≠ i2 → s.heap.get? c = some o → h'.get? c = some o) → Q v { s with heap := h' }) :
    wpAny (model prog w) A (Builtin.«zip.__next__» ⟨[.ref z], []⟩) (fun fin s' => ∃ v, fin = .done (.ret v) ∧ Q v s') E s := by
  show wpAny _ _ (field (.ref z) 2 >>= _) _ _ _
  refine wpAny_bind (wpAny_field hz rfl (x := .bool false) rfl ?_)
  show wpAny _ _ (field (.ref z) 3 >>= _) _ _ _
  refine wpAny_bind (wpAny_field hz rfl (x := .ref TI) rfl ?_)
  refine wpAny_bind (wpAny_seqItems hTI rfl ?_)
  show wpAny _ _ (Builtin.SmallTypes.ownedTupleIsFree (.ref z) >>= _) _ _ _
  have free : ∀ {R : Bool → Shared → Prop}, R true s → wpAny (model prog w) A (Builtin.SmallTypes.ownedTupleIsFree (.ref z)) R E s := by
    intro R hR
    unfold Builtin.SmallTypes.ownedTupleIsFree
    refine wpAny_bind (wpAny_field hz rfl (x := f0) rfl ?_)
    rcases hf with rfl | ⟨T, rfl, hT⟩
    · exact wpAny_pure hR
    · refine wpAny_bind (wpAny_alive ?_)
      show wpAny _ _ (if (s.heap.get? (T : Int).toNat).isNone = true then _ else _) _ _ _
      rw [show (T : Int).toNat = T from Int.toNat_natCast T, hT]
      exact wpAny_pure hR
  refine wpAny_bind (free ?_)
  simp only [if_true]
  refine wpAny_bind (wpAny_rule ?_)
  refine wpAny_bind (wpAny_field hz rfl (x := .ref TO) rfl ?_)
  refine wpAny_bind (wpAny_setField_rec hz (by simp) fun h₁ hz₁ hs₁ => ?_)
  replace hz₁ : IsZipF h₁ z TI TO .ellipsis f1 := hz₁
  refine wpAny_bind ?_
  simp only [List.zipIdx_cons, List.zipIdx_nil, List.forIn_cons, List.forIn_nil]
  refine wpAny_bind (wpAny_bind (wpAny_onRaise ?_))
  show wpAny _ _ (Builtin.SmallTypes.nextOf (.ref i1) >>= _) _ _ _
  refine wpAny_bind (nextOf_tup_item (h1.extBut hs₁.extBut D.i1z) (hl1.extBut hs₁.extBut D.l1z) hx fun h₂ h1₂ hs₂ => wpAny_pure ?_)
  have hTO₂ : IsPair h₂ TO a b := hs₂.extBut _ _ D.TOi1 (hs₁.extBut _ _ D.TOz hTO)
  refine wpAny_bind (wpAny_seqItems hTO₂ rfl ?_)
  refine wpAny_bind (wpAny_updateSeq_pair hTO₂ fun h₃ hTO₃ hs₃ => ?_)
  replace hTO₃ : IsPair h₃ TO x b := hTO₃
  refine wpAny_bind (wpAny_letGo (wpAny_pure ?_))
  refine wpAny_bind (wpAny_bind (wpAny_onRaise ?_))
  show wpAny _ _ (Builtin.SmallTypes.nextOf (.ref i2) >>= _) _ _ _
  refine wpAny_bind (nextOf_tup_item (((h2.extBut hs₁.extBut D.i2z).extBut hs₂.extBut D.i12.symm).extBut hs₃.extBut D.TOi2.symm)
    (((hl2.extBut hs₁.extBut D.l2z).extBut hs₂.extBut D.l2i1).extBut hs₃.extBut D.l2TO) hy fun h₄ h2₄ hs₄ => wpAny_pure ?_)
  have hTO₄ : IsPair h₄ TO x b := hs₄.extBut _ _ D.TOi2 hTO₃
  refine wpAny_bind (wpAny_seqItems hTO₄ rfl ?_)
  refine wpAny_bind (wpAny_updateSeq_pair hTO₄ fun h₅ hTO₅ hs₅ => ?_)
  replace hTO₅ : IsPair h₅ TO x y := hTO₅
  refine wpAny_bind (wpAny_letGo (wpAny_pure (wpAny_pure ?_)))
  refine wpAny_bind (wpAny_seqItems hTO₅ rfl ?_)
  refine wpAny_bind (wpAny_newTuple ?_)
  have hz₅ : IsZipF h₅ z TI TO .ellipsis f1 := hs₅.extBut _ _ D.TOz.symm (hs₄.extBut _ _ D.i2z.symm (hs₃.extBut _ _ D.TOz.symm (hs₂.extBut _ _ D.i1z.symm hz₁)))
  have hk₅ : ∀ c o, c ≠ z → c ≠ TO → c ≠ i1 → c ≠ i2 → s.heap.get? c = some o → h₅.get? c = some o := fun c o c1 c2 c3 c4 e =>
    hs₅.extBut _ _ c2 (hs₄.extBut _ _ c4 (hs₃.extBut _ _ c2 (hs₂.extBut _ _ c3 (hs₁.extBut _ _ c1 e))))
  have h1₅ : IsTupIter h₅ i1 l1 (k + 1) := ((h1₂.extBut hs₃.extBut D.TOi1.symm).extBut hs₄.extBut D.i12).extBut hs₅.extBut D.TOi1.symm
  have h2₅ : IsTupIter h₅ i2 l2 (k + 1) := h2₄.extBut hs₅.extBut D.TOi2.symm
  show wpAny _ _ (Builtin.SmallTypes.ownedTupleHandOut (.ref z) (.ref h₅.objs.size) >>= _) _ _ _
  refine wpAny_bind ?_
  unfold Builtin.SmallTypes.ownedTupleHandOut
  have hz₆ : IsZipF (h₅.push { cls := .type "tuple", data := .seq #[x, y] }) z TI TO .ellipsis f1 := Heap.get?_push_of_some _ hz₅
  refine wpAny_bind (wpAny_setField_rec hz₆ (by simp) fun h₇ hz₇ hs₇ => ?_)
  replace hz₇ : IsZipF h₇ z TI TO (rawInt h₅.objs.size) f1 := hz₇
  refine wpAny_setField_rec hz₇ (by simp) fun h₈ hz₈ hs₈ => ?_
  replace hz₈ : IsZipF h₈ z TI TO (rawInt h₅.objs.size) (.bool false) := hz₈
  have up : ∀ c o, c ≠ z → h₅.get? c = some o → h₈.get? c = some o := fun c o c1 e => hs₈.extBut _ _ c1 (hs₇.extBut _ _ c1 (Heap.get?_push_of_some _ e))
  refine wpAny_pure ⟨_, rfl, hQ _ h₈ ⟨⟨_, _, hz₈, .inr ⟨_, rfl⟩⟩, up _ _ D.TIz (hk₅ _ _ D.TIz D.TITO D.TIi1 D.TIi2 hTI), ⟨_, _, up _ _ D.TOz hTO₅⟩, tupIter_at h1₅ fun o e => up _ o D.i1z e, tupIter_at h2₅ fun o e => up _ o D.i2z e,
    tup_at hl1 fun o e => up _ o D.l1z (hk₅ _ o D.l1z D.l1TO D.l1i1 D.l1i2 e), tup_at hl2 fun o e => up _ o D.l2z (hk₅ _ o D.l2z D.l2TO D.l2i1 D.l2i2 e)⟩
    fun c o c1 c2 c3 c4 e => up c o c1 (hk₅ c o c1 c2 c3 c4 e)⟩
/-- the owned tuple is held: a new one is made -/
theorem zip_held_item {z TI TO i1 i2 l1 l2 T : Addr} {k : Nat} {xs ys : Array Value} {x y f1 : Value} {oT : Obj} {Q : Value → Shared → Prop} (D : ZipApart z TI TO i1 i2 l1 l2)
    (hz : IsZipF s.heap z TI TO (rawInt T) f1) (hT : s.heap.get? T = some oT) (hTI : IsPair s.heap TI (.ref i1) (.ref i2)) (hTO : ∃ a b, IsPair s.heap TO a b)
    (h1 : IsTupIter s.heap i1 l1 k) (h2 : IsTupIter s.heap i2 l2 k) (hl1 : IsTup s.heap l1 xs) (hl2 : IsTup s.heap l2 ys) (hx : xs[k]? = some x) (hy : ys[k]? = some y)
    (hQ : ∀ v h', ZSt h' z TI TO i1 i2 l1 l2 xs ys (k + 1) → (∀ c o, c ≠ z → c ≠ TO → c ≠ i1 → c ≠ i2 → s.heap.get? c = some o → h'.get? c = some o) → Q v { s with heap := h' }) :
    wpAny (model prog w) A (Builtin.«zip.__next__» ⟨[.ref z], []⟩) (fun fin s' => ∃ v, fin = .done (.ret v) ∧ Q v s') E s := by
  show wpAny _ _ (field (.ref z) 2 >>= _) _ _ _
  refine wpAny_bind (wpAny_field hz rfl (x := .bool false) rfl ?_)
  show wpAny _ _ (field (.ref z) 3 >>= _) _ _ _
  refine wpAny_bind (wpAny_field hz rfl (x := .ref TI) rfl ?_)
  refine wpAny_bind (wpAny_seqItems hTI rfl ?_)
  show wpAny _ _ (Builtin.SmallTypes.ownedTupleIsFree (.ref z) >>= _) _ _ _
  have held : ∀ {R : Bool → Shared → Prop}, (∀ h₁ f, IsZipF h₁ z TI TO (rawInt T) f → Heap.SameBut z s.heap h₁ → R false { s with heap := h₁ }) → wpAny (model prog w) A (Builtin.SmallTypes.ownedTupleIsFree (.ref z)) R E s := by
    intro R hR
    unfold Builtin.SmallTypes.ownedTupleIsFree
    refine wpAny_bind (wpAny_field hz rfl (x := rawInt T) rfl ?_)
    refine wpAny_bind (wpAny_alive ?_)
    show wpAny _ _ (if (s.heap.get? (T : Int).toNat).isNone = true then _ else _) _ _ _
    rw [show (T : Int).toNat = T from Int.toNat_natCast T, hT]
    show wpAny _ _ (field (.ref z) 1 >>= _) _ _ _
    refine wpAny_bind (wpAny_field hz rfl (x := f1) rfl ?_)
    by_cases hf : (f1 != Value.bool true) = true
    · show wpAny _ _ (if (f1 != Value.bool true) = true then _ else _) _ _ _
      rw [if_pos hf]
      refine wpAny_bind (wpAny_setField_rec hz (by simp) fun h₁ hz₁ hs₁ => wpAny_pure ?_)
      exact hR h₁ _ hz₁ hs₁
    · show wpAny _ _ (if (f1 != Value.bool true) = true then _ else _) _ _ _
      rw [if_neg hf]
      exact wpAny_bind (wpAny_pure (wpAny_pure (hR s.heap _ hz (Heap.SameBut.refl ..))))
  refine wpAny_bind (held fun h₁ f hz₁ hs₁ => ?_)
  simp only [Bool.false_eq_true, if_false]
  rw [← Array.forIn_toList]
  simp only [List.forIn_cons, List.forIn_nil]
  refine wpAny_bind (wpAny_bind (wpAny_bind (wpAny_holding ?_)))
  show wpAny _ _ (Builtin.SmallTypes.nextOf (.ref i1) >>= _) _ _ _
  refine wpAny_bind (nextOf_tup_item (h1.extBut hs₁.extBut D.i1z) (hl1.extBut hs₁.extBut D.l1z) hx fun h₂ h1₂ hs₂ => wpAny_pure (wpAny_pure ?_))
  refine wpAny_bind (wpAny_bind (wpAny_holding ?_))
  show wpAny _ _ (Builtin.SmallTypes.nextOf (.ref i2) >>= _) _ _ _
  refine wpAny_bind (nextOf_tup_item ((h2.extBut hs₁.extBut D.i2z).extBut hs₂.extBut D.i12.symm) ((hl2.extBut hs₁.extBut D.l2z).extBut hs₂.extBut D.l2i1) hy fun h₃ h2₃ hs₃ => wpAny_pure (wpAny_pure (wpAny_pure ?_)))
  show wpAny _ _ (newTuple [x, y] >>= _) _ _ _
  refine wpAny_bind (wpAny_newTuple (wpAny_pure ⟨_, rfl, ?_⟩))
  obtain ⟨a, b, hTO⟩ := hTO
  have up : ∀ c o, c ≠ i1 → c ≠ i2 → h₁.get? c = some o → (h₃.push { cls := .type "tuple", data := .seq #[x, y] }).get? c = some o := fun c o c1 c2 e => Heap.get?_push_of_some _ (hs₃.extBut _ _ c2 (hs₂.extBut _ _ c1 e))
  have up0 : ∀ c o, c ≠ z → c ≠ i1 → c ≠ i2 → s.heap.get? c = some o → (h₃.push { cls := .type "tuple", data := .seq #[x, y] }).get? c = some o := fun c o c0 c1 c2 e => up c o c1 c2 (hs₁.extBut _ _ c0 e)
  exact hQ _ _ ⟨⟨_, _, up _ _ D.i1z.symm D.i2z.symm hz₁, .inr ⟨T, rfl⟩⟩, up0 _ _ D.TIz D.TIi1 D.TIi2 hTI, ⟨_, _, up0 _ _ D.TOz D.TOi1 D.TOi2 hTO⟩,
    tupIter_at (h1₂.extBut hs₃.extBut D.i12) fun o e => Heap.get?_push_of_some _ e, tupIter_at h2₃ fun o e => Heap.get?_push_of_some _ e,
    tup_at hl1 fun o e => up0 _ o D.l1z D.l1i1 D.l1i2 e, tup_at hl2 fun o e => up0 _ o D.l2z D.l2i1 D.l2i2 e⟩ fun c o c0 _ c1 c2 e => up0 c o c0 c1 c2 e
/-- the end, the owned tuple free -/
theorem zip_free_end {z TI TO i1 i2 l1 l2 : Addr} {k : Nat} {xs ys : Array Value} {a b f0 f1 : Value} {Q : Fin → Shared → Prop} (hh : A.handled = none) (D : ZipApart z TI TO i1 i2 l1 l2)
    (hz : IsZipF s.heap z TI TO f0 f1) (hf : f0 = .none ∨ ∃ T : Nat, f0 = rawInt T ∧ s.heap.get? T = none) (hTI : IsPair s.heap TI (.ref i1) (.ref i2)) (hTO : IsPair s.heap TO a b)
    (h1 : IsTupIter s.heap i1 l1 k) (h2 : IsTupIter s.heap i2 l2 k) (hl1 : IsTup s.heap l1 xs) (hl2 : IsTup s.heap l2 ys) (hend : xs[k]? = none ∨ ys[k]? = none)
    (hE : ∀ h' e, (∀ c o, c ≠ z → c ≠ TO → c ≠ i1 → c ≠ i2 → s.heap.get? c = some o → h'.get? c = some o) → (∃ o, h'.get? e = some o ∧ o.cls = .type "StopIteration") → E (.ref e) { s with heap := h' }) :
    wpAny (model prog w) A (Builtin.«zip.__next__» ⟨[.ref z], []⟩) Q E s := by
  show wpAny _ _ (field (.ref z) 2 >>= _) _ _ _
  refine wpAny_bind (wpAny_field hz rfl (x := .bool false) rfl ?_)
  show wpAny _ _ (field (.ref z) 3 >>= _) _ _ _
  refine wpAny_bind (wpAny_field hz rfl (x := .ref TI) rfl ?_)
  refine wpAny_bind (wpAny_seqItems hTI rfl ?_)
  show wpAny _ _ (Builtin.SmallTypes.ownedTupleIsFree (.ref z) >>= _) _ _ _
  have free : ∀ {R : Bool → Shared → Prop}, R true s → wpAny (model prog w) A (Builtin.SmallTypes.ownedTupleIsFree (.ref z)) R E s := by
    intro R hR
    unfold Builtin.SmallTypes.ownedTupleIsFree
    refine wpAny_bind (wpAny_field hz rfl (x := f0) rfl ?_)
    rcases hf with rfl | ⟨T, rfl, hT⟩
    · exact wpAny_pure hR
    · refine wpAny_bind (wpAny_alive ?_)
      show wpAny _ _ (if (s.heap.get? (T : Int).toNat).isNone = true then _ else _) _ _ _
      rw [show (T : Int).toNat = T from Int.toNat_natCast T, hT]
      exact wpAny_pure hR
  refine wpAny_bind (free ?_)
  simp only [if_true]
  refine wpAny_bind (wpAny_rule ?_)
  refine wpAny_bind (wpAny_field hz rfl (x := .ref TO) rfl ?_)
  refine wpAny_bind (wpAny_setField_rec hz (by simp) fun h₁ hz₁ hs₁ => ?_)
  replace hz₁ : IsZipF h₁ z TI TO .ellipsis f1 := hz₁
  refine wpAny_bind ?_
  simp only [List.zipIdx_cons, List.zipIdx_nil, List.forIn_cons, List.forIn_nil]
  refine wpAny_bind (wpAny_bind (wpAny_onRaise ?_))
  show wpAny _ _ (Builtin.SmallTypes.nextOf (.ref i1) >>= _) _ _ _
  cases hx : xs[k]? with
  | none =>
    refine wpAny_bind (nextOf_tup_end hh (h1.extBut hs₁.extBut D.i1z) (hl1.extBut hs₁.extBut D.l1z) hx fun h₂ e hs₂ he => ?_)
    obtain ⟨oe, hoe, hce⟩ := he
    have hz₂ : IsZipF h₂ z TI TO .ellipsis f1 := hs₂ _ _ D.i1z.symm hz₁
    have hez : e ≠ z := fun x => by subst x; rw [hz₂] at hoe; cases hoe; simp at hce
    refine wpAny_setField_rec hz₂ (by simp) fun h₃ _ hs₃ => hE h₃ e (fun c o c1 _ c3 _ x => hs₃.extBut _ _ c1 (hs₂ _ _ c3 (hs₁.extBut _ _ c1 x))) ⟨oe, hs₃.extBut _ _ hez hoe, hce⟩
  | some x =>
    have hy : ys[k]? = none := by rcases hend with h | h; rw [hx] at h; cases h; exact h
    refine wpAny_bind (nextOf_tup_item (h1.extBut hs₁.extBut D.i1z) (hl1.extBut hs₁.extBut D.l1z) hx fun h₂ h1₂ hs₂ => wpAny_pure ?_)
    have hTO₂ : IsPair h₂ TO a b := hs₂.extBut _ _ D.TOi1 (hs₁.extBut _ _ D.TOz hTO)
    refine wpAny_bind (wpAny_seqItems hTO₂ rfl ?_)
    refine wpAny_bind (wpAny_updateSeq_pair hTO₂ fun h₃ hTO₃ hs₃ => ?_)
    refine wpAny_bind (wpAny_letGo (wpAny_pure ?_))
    refine wpAny_bind (wpAny_bind (wpAny_onRaise ?_))
    show wpAny _ _ (Builtin.SmallTypes.nextOf (.ref i2) >>= _) _ _ _
    refine wpAny_bind (nextOf_tup_end hh (((h2.extBut hs₁.extBut D.i2z).extBut hs₂.extBut D.i12.symm).extBut hs₃.extBut D.TOi2.symm)
      (((hl2.extBut hs₁.extBut D.l2z).extBut hs₂.extBut D.l2i1).extBut hs₃.extBut D.l2TO) hy fun h₄ e hs₄ he => ?_)
    obtain ⟨oe, hoe, hce⟩ := he
    have hz₄ : IsZipF h₄ z TI TO .ellipsis f1 := hs₄ _ _ D.i2z.symm (hs₃.extBut _ _ D.TOz.symm (hs₂.extBut _ _ D.i1z.symm hz₁))
    have hez : e ≠ z := fun x => by subst x; rw [hz₄] at hoe; cases hoe; simp at hce
    refine wpAny_setField_rec hz₄ (by simp) fun h₅ _ hs₅ => hE h₅ e (fun c o c1 c2 c3 c4 x => hs₅.extBut _ _ c1 (hs₄ _ _ c4 (hs₃.extBut _ _ c2 (hs₂.extBut _ _ c3 (hs₁.extBut _ _ c1 x))))) ⟨oe, hs₅.extBut _ _ hez hoe, hce⟩
/-- the end, the owned tuple held -/
theorem zip_held_end {z TI TO i1 i2 l1 l2 T : Addr} {k : Nat} {xs ys : Array Value} {f1 : Value} {oT : Obj} {Q : Fin → Shared → Prop} (hh : A.handled = none) (D : ZipApart z TI TO i1 i2 l1 l2)
    (hz : IsZipF s.heap z TI TO (rawInt T) f1) (hT : s.heap.get? T = some oT) (hTI : IsPair s.heap TI (.ref i1) (.ref i2))
    (h1 : IsTupIter s.heap i1 l1 k) (h2 : IsTupIter s.heap i2 l2 k) (hl1 : IsTup s.heap l1 xs) (hl2 : IsTup s.heap l2 ys) (hend : xs[k]? = none ∨ ys[k]? = none)
    (hE : ∀ h' e, (∀ c o, c ≠ z → c ≠ TO → c ≠ i1 → c ≠ i2 → s.heap.get? c = some o → h'.get? c = some o) → (∃ o, h'.get? e = some o ∧ o.cls = .type "StopIteration") → E (.ref e) { s with heap := h' }) :
    wpAny (model prog w) A (Builtin.«zip.__next__» ⟨[.ref z], []⟩) Q E s := by
  show wpAny _ _ (field (.ref z) 2 >>= _) _ _ _
  refine wpAny_bind (wpAny_field hz rfl (x := .bool false) rfl ?_)
  show wpAny _ _ (field (.ref z) 3 >>= _) _ _ _
  refine wpAny_bind (wpAny_field hz rfl (x := .ref TI) rfl ?_)
  refine wpAny_bind (wpAny_seqItems hTI rfl ?_)
  show wpAny _ _ (Builtin.SmallTypes.ownedTupleIsFree (.ref z) >>= _) _ _ _
  have held : ∀ {R : Bool → Shared → Prop}, (∀ h₁ f, IsZipF h₁ z TI TO (rawInt T) f → Heap.SameBut z s.heap h₁ → R false { s with heap := h₁ }) → wpAny (model prog w) A (Builtin.SmallTypes.ownedTupleIsFree (.ref z)) R E s := by
    intro R hR
    unfold Builtin.SmallTypes.ownedTupleIsFree
    refine wpAny_bind (wpAny_field hz rfl (x := rawInt T) rfl ?_)
    refine wpAny_bind (wpAny_alive ?_)
    show wpAny _ _ (if (s.heap.get? (T : Int).toNat).isNone = true then _ else _) _ _ _
    rw [show (T : Int).toNat = T from Int.toNat_natCast T, hT]
    show wpAny _ _ (field (.ref z) 1 >>= _) _ _ _
    refine wpAny_bind (wpAny_field hz rfl (x := f1) rfl ?_)
    by_cases hf : (f1 != Value.bool true) = true
    · show wpAny _ _ (if (f1 != Value.bool true) = true then _ else _) _ _ _
      rw [if_pos hf]
      refine wpAny_bind (wpAny_setField_rec hz (by simp) fun h₁ hz₁ hs₁ => wpAny_pure ?_)
      exact hR h₁ _ hz₁ hs₁
    · show wpAny _ _ (if (f1 != Value.bool true) = true then _ else _) _ _ _
      rw [if_neg hf]
      exact wpAny_bind (wpAny_pure (wpAny_pure (hR s.heap _ hz (Heap.SameBut.refl ..))))
  refine wpAny_bind (held fun h₁ f hz₁ hs₁ => ?_)
  simp only [Bool.false_eq_true, if_false]
  rw [← Array.forIn_toList]
  simp only [List.forIn_cons, List.forIn_nil]
  refine wpAny_bind (wpAny_bind (wpAny_bind (wpAny_holding ?_)))
  show wpAny _ _ (Builtin.SmallTypes.nextOf (.ref i1) >>= _) _ _ _
  cases hx : xs[k]? with
  | none =>
    refine wpAny_bind (nextOf_tup_end hh (h1.extBut hs₁.extBut D.i1z) (hl1.extBut hs₁.extBut D.l1z) hx fun h₂ e hs₂ he => ?_)
    exact hE h₂ e (fun c o c1 _ c3 _ x => hs₂ _ _ c3 (hs₁.extBut _ _ c1 x)) he
  | some x =>
    have hy : ys[k]? = none := by rcases hend with h | h; rw [hx] at h; cases h; exact h
    refine wpAny_bind (nextOf_tup_item (h1.extBut hs₁.extBut D.i1z) (hl1.extBut hs₁.extBut D.l1z) hx fun h₂ h1₂ hs₂ => wpAny_pure (wpAny_pure ?_))
    refine wpAny_bind (wpAny_bind (wpAny_holding ?_))
    show wpAny _ _ (Builtin.SmallTypes.nextOf (.ref i2) >>= _) _ _ _
    refine wpAny_bind (nextOf_tup_end hh ((h2.extBut hs₁.extBut D.i2z).extBut hs₂.extBut D.i12.symm) ((hl2.extBut hs₁.extBut D.l2z).extBut hs₂.extBut D.l2i1) hy fun h₃ e hs₃ he => ?_)
    exact hE h₃ e (fun c o c1 _ c3 c4 x => hs₃ _ _ c4 (hs₂.extBut _ _ c3 (hs₁.extBut _ _ c1 x))) he
theorem ZSt.cases {h : Heap} {z TI TO i1 i2 l1 l2 : Addr} {xs ys : Array Value} {i : Nat} (S : ZSt h z TI TO i1 i2 l1 l2 xs ys i) :
    (∃ f0 f1, IsZipF h z TI TO f0 f1 ∧ (f0 = .none ∨ ∃ T : Nat, f0 = rawInt T ∧ h.get? T = none)) ∨ ∃ (T : Nat) (f1 : Value) (o : Obj), IsZipF h z TI TO (rawInt T) f1 ∧ h.get? T = some o := by
  obtain ⟨f0, f1, hz, rfl | ⟨T, rfl⟩⟩ := S.zip
  · exact .inl ⟨_, _, hz, .inl rfl⟩
  · cases hT : h.get? T with
    | none => exact .inl ⟨_, _, hz, .inr ⟨T, rfl, hT⟩⟩
    | some o => exact .inr ⟨T, _, o, hz, hT⟩
theorem zipF_type {h : Heap} {z TI TO : Addr} {f0 f1 : Value} (s : Shared) (hs : s.heap = h) (hz : IsZipF h z TI TO f0 f1) : s.TypeIs (.ref z) "zip" := by subst hs; exact ⟨_, hz, rfl⟩
theorem ZSt.type {s : Shared} {z TI TO i1 i2 l1 l2 : Addr} {xs ys : Array Value} {i : Nat} (S : ZSt s.heap z TI TO i1 i2 l1 l2 xs ys i) : s.TypeIs (.ref z) "zip" := by
  obtain ⟨f0, f1, hz, _⟩ := S.zip
  exact ⟨_, hz, rfl⟩
theorem zip_walks (hh : A.handled = none) (z TI TO i1 i2 l1 l2 : Addr) (D : ZipApart z TI TO i1 i2 l1 l2) (xs ys : Array Value) :
    Walks prog w A z [z, TI, TO, i1, i2, l1, l2] [z, TO, i1, i2] (min xs.size ys.size) (fun _ _ => True) (fun i h => ZSt h z TI TO i1 i2 l1 l2 xs ys i) where
  sub := fun c hc => by simp at hc ⊢; rcases hc with rfl | rfl | rfl | rfl <;> simp
  frame := fun i h h' S hk => by
    obtain ⟨f0, f1, hz, hf⟩ := S.zip
    obtain ⟨a, b, hTO⟩ := S.to
    exact ⟨⟨f0, f1, hk z (by simp) _ hz, hf⟩, hk TI (by simp) _ S.ti, ⟨a, b, hk TO (by simp) _ hTO⟩, tupIter_at S.it1 fun o e => hk i1 (by simp) o e, tupIter_at S.it2 fun o e => hk i2 (by simp) o e,
      tup_at S.t1 fun o e => hk l1 (by simp) o e, tup_at S.t2 fun o e => hk l2 (by simp) o e⟩
  item := fun i s Q E hi S hQ => by
    have hix : i < xs.size := Nat.lt_of_lt_of_le hi (Nat.min_le_left ..)
    have hiy : i < ys.size := Nat.lt_of_lt_of_le hi (Nat.min_le_right ..)
    have go : ∀ v h', ZSt h' z TI TO i1 i2 l1 l2 xs ys (i + 1) → (∀ c o, c ≠ z → c ≠ TO → c ≠ i1 → c ≠ i2 → s.heap.get? c = some o → h'.get? c = some o) → Q (some v) { s with heap := h' } := fun v h' S' hk =>
      hQ v h' s.toks trivial S' fun c o hc e => hk c o (fun x => hc (by simp [x])) (fun x => hc (by simp [x])) (fun x => hc (by simp [x])) (fun x => hc (by simp [x])) e
    unfold pyNext
    refine wpAny_bind (wpAny_attempt (wpAny_callSpecial?_slot (name := Str.ofString "__next__") S.type F.slot_zip_next (wpAny_call_entry F.slot_zip_next S.type F.entry_zip_next ?_ (F.args_zip_next_1 _))))
    obtain ⟨a, b, hTO⟩ := S.to
    rcases S.cases with ⟨f0, f1, hz, hf⟩ | ⟨T, f1, o, hz, hT⟩
    · exact zip_free_item D hz hf S.ti hTO S.it1 S.it2 S.t1 S.t2 (Array.getElem?_eq_getElem hix) (Array.getElem?_eq_getElem hiy) fun v h' S' hk => wpAny_pure (go v h' S' hk)
    · exact zip_held_item D hz hT S.ti ⟨a, b, hTO⟩ S.it1 S.it2 S.t1 S.t2 (Array.getElem?_eq_getElem hix) (Array.getElem?_eq_getElem hiy) fun v h' S' hk => wpAny_pure (go v h' S' hk)
  done := fun s Q E S hQ => by
    have hend : xs[min xs.size ys.size]? = none ∨ ys[min xs.size ys.size]? = none := by
      rcases Nat.le_total xs.size ys.size with h | h
      · exact .inl (by rw [Nat.min_eq_left h]; exact Array.getElem?_eq_none (Nat.le_refl _))
      · exact .inr (by rw [Nat.min_eq_right h]; exact Array.getElem?_eq_none (Nat.le_refl _))
    have go : ∀ h', (∀ c o, c ≠ z → c ≠ TO → c ≠ i1 → c ≠ i2 → s.heap.get? c = some o → h'.get? c = some o) → Q none { s with heap := h' } := fun h' hk =>
      hQ h' s.toks fun c o hc e => hk c o (fun x => hc (by simp [x])) (fun x => hc (by simp [x])) (fun x => hc (by simp [x])) (fun x => hc (by simp [x])) e
    unfold pyNext
    refine wpAny_bind (wpAny_attempt (wpAny_callSpecial?_slot (name := Str.ofString "__next__") S.type F.slot_zip_next (wpAny_call_entry F.slot_zip_next S.type F.entry_zip_next ?_ (F.args_zip_next_1 _))))
    obtain ⟨a, b, hTO⟩ := S.to
    rcases S.cases with ⟨f0, f1, hz, hf⟩ | ⟨T, f1, o, hz, hT⟩
    · exact zip_free_end hh D hz hf S.ti hTO S.it1 S.it2 S.t1 S.t2 hend fun h' e hk he => (by obtain ⟨o, ho, hc⟩ := he; exact wpAny_bind (wpAny_isInstance (T := "StopIteration") (b := true) ⟨o, ho, hc⟩ isSubtype_stop (wpAny_pure (go h' hk))))
    · exact zip_held_end hh D hz hT S.ti S.it1 S.it2 S.t1 S.t2 hend fun h' e hk he => (by obtain ⟨o, ho, hc⟩ := he; exact wpAny_bind (wpAny_isInstance (T := "StopIteration") (b := true) ⟨o, ho, hc⟩ isSubtype_stop (wpAny_pure (go h' hk))))
  self := fun i s Q E S hQ => by
    refine wpAny_pyIter_slot S.type F.slot_zip_iter (wpAny_call_entry F.slot_zip_iter S.type F.entry_zip_iter ?_ (F.args_zip_iter_1 _))
    show wpAny _ _ (ret (.ref z)) _ _ s
    exact wpAny_pure ⟨_, rfl, "zip", _, S.type, F.slot_zip_next.lookup, hQ⟩
theorem zip_no_len : typeLookup (.type "zip") "__len__" = pure none := by rw [typeLookup_type, builtinLookup_eq_fast]; kernel_rfl
theorem zip_no_hint : typeLookup (.type "zip") "__length_hint__" = pure none := by rw [typeLookup_type, builtinLookup_eq_fast]; kernel_rfl
end
section
variable {prog : Program} {w : World} {A : Around} {E : Value → Shared → Prop} {s : Shared} {I : Addr} {fp wr : List Addr} {G : Array GenState → Array GenState → Prop} {n : Nat} {P : Nat → Value → Prop} {St : Nat → Shared → Prop}
theorem collect_zip {Q : List Value → Shared → Prop} (W : WalksS prog w A.in1 I fp wr G n P St) (hT : ∀ i s, St i s → s.TypeIs (.ref I) "zip") (hst : St 0 s) (hfp : ∀ b ∈ fp, b < s.heap.objs.size) (hI : I ∈ fp)
    (hQ : ∀ s' acc, Moved wr G s s' → ItemsOf P acc n → Q acc.toList s') (hn : n ≤ sizeLine) : wpAny (model prog w) A (collect (.ref I)) Q E s := by
  have hSf : s.heap.objs.size ∉ fp := fun hm => Nat.lt_irrefl _ (hfp _ hm)
  have hSI : s.heap.objs.size ≠ I := fun e => hSf (e ▸ hI)
  unfold collect
  refine wpAny_bind (wpAny_runValue (codeAny_builtin F.entry_proto_collect ?_))
  rw [Around.under_plainId F.plain_proto_collect _]
  show wpAny _ A.in1 (newList [] >>= fun l => again (.builtin "list.__iadd__" ⟨[l, .ref I], []⟩)) _ _ s
  refine wpAny_bind (wpAny_newObj_type ?_)
  refine wpAny_pure ⟨plainId_quiet F.plain_list_iadd _, codeAny_builtin F.entry_list_iadd ?_⟩
  rw [Around.under_plainId F.plain_list_iadd _]
  have hst₁ := W.frame 0 s (s.heap.push { cls := .type "list", data := .seq ([] : List Value).toArray }) s.toks hst (Nat.le_refl _) fun b _ o e => Heap.get?_push_of_some _ e
  show wpAny _ A.in1 (Builtin.List.listExtendWith (.ref s.heap.objs.size) (.ref I) (.ref s.heap.objs.size)) _ _ _
  unfold Builtin.List.listExtendWith
  refine wpAny_bind (wpAny_typeOf (hT 0 _ hst₁) ?_)
  have h1 : Builtin.List.listSameRef (.ref s.heap.objs.size) (.ref I) = false := by simp [Builtin.List.listSameRef, hSI]
  have h2 : (Value.type "zip" == Value.type "list") = false := by decide
  have h3 : (Value.type "zip" == Value.type "tuple") = false := by decide
  simp only [h1, h2, h3, Bool.or_false, Bool.false_eq_true, if_false]
  refine wpAny_bind (W.self 0 _ _ _ hst₁ ?_)
  refine wpAny_bind (wpAny_holding ?_)
  unfold Builtin.List.listLengthHint
  refine wpAny_bind (wpAny_specialOf (hT 0 _ hst₁) zip_no_len ?_)
  show wpAny _ A.in1 (specialOf (Value.ref I) (Str.ofString "__length_hint__") >>= _) _ _ _
  refine wpAny_bind (wpAny_specialOf (hT 0 _ hst₁) zip_no_hint ?_)
  refine wpAny_pure ?_
  show wpAny _ A.in1 (rule "list.extend.makes-room" >>= fun _ => Builtin.List.listTouch (.ref s.heap.objs.size) >>= fun _ =>
    again (.builtin "list.extend.loop" ⟨[.ref s.heap.objs.size, .ref I, .ref s.heap.objs.size], []⟩)) _ _ _
  refine wpAny_bind (wpAny_rule ?_)
  have hS₁ : (s.heap.push { cls := .type "list", data := .seq ([] : List Value).toArray }).get? s.heap.objs.size = some { cls := .type "list", data := .seq ([] : List Value).toArray } := Heap.get?_push_size _ rfl
  refine wpAny_bind ?_
  show wpAny _ A.in1 (updateSeq s.heap.objs.size (·.push .none) >>= fun _ => updateSeq s.heap.objs.size (·.pop)) _ _ _
  refine wpAny_bind (wpAny_updateSeq hS₁ rfl ?_)
  have hS₂ := Heap.get?_update_self (Obj.mapSeq (·.push Value.none)) hS₁ rfl
  refine wpAny_updateSeq hS₂ rfl ?_
  have hS₃ := Heap.get?_update_self (Obj.mapSeq (·.pop)) hS₂ rfl
  have oth : ∀ b o, b ≠ s.heap.objs.size → (s.heap.push { cls := .type "list", data := .seq ([] : List Value).toArray }).get? b = some o →
      (((s.heap.push { cls := .type "list", data := .seq ([] : List Value).toArray }).update s.heap.objs.size (Obj.mapSeq (·.push Value.none))).update s.heap.objs.size (Obj.mapSeq (·.pop))).get? b = some o :=
    fun b o hb e => (Heap.get?_update_other _ _ (Ne.symm hb)).trans ((Heap.get?_update_other _ _ (Ne.symm hb)).trans e)
  refine wpAny_pure ⟨plainId_quiet F.plain_extend_loop _, codeAny_extend_loopS W hn _ hSf _ n 0 _ _ _ rfl (Nat.zero_le _)
    (W.frame 0 ({ s with heap := s.heap.push { cls := .type "list", data := .seq ([] : List Value).toArray } } : Shared) _ s.toks hst₁ (Nat.le_refl _) fun b hb o e => oth b o (fun h => hSf (h ▸ hb)) e) hS₃ (ItemsOf.nil P) fun s' acc' c' hm hS' hacc => ?_⟩
  show wpAny _ A (load s.heap.objs.size >>= _) _ _ s'
  refine wpAny_bind (wpAny_load hS' ?_)
  exact wpAny_pure (hQ s' acc' (Moved.drop_new (o := { cls := .type "list", data := .seq ([] : List Value).toArray }) (tk := s.toks) (Moved.trans W.gtrans ((Moved.refl W.grefl).then_heap (Nat.le_refl _) fun b o hb e => oth b o (fun h => hb (by rw [h]; exact List.mem_cons_self)) e) hm) (Nat.le_refl _)) hacc)
theorem code_tuple_new_zip {Q₁ : Value → Shared → Prop} (W : WalksS prog w A.in1.in1 I fp wr G n P St) (hT : ∀ i s, St i s → s.TypeIs (.ref I) "zip") (hst : St 0 s) (hfp : ∀ b ∈ fp, b < s.heap.objs.size) (hI : I ∈ fp)
    (h : ∀ s' acc, Moved wr G s s' → ItemsOf P acc n → Q₁ (.ref s'.heap.objs.size) { s' with heap := s'.heap.push { cls := .type "tuple", data := .seq acc } }) (hsz : n ≤ sizeLine) :
    codeAny (model prog w) A (.call (.builtin "tuple.__new__") ⟨[.type "tuple", .ref I], []⟩) (wants Q₁ E) s := by
  refine codeAny_of_tree ?_
  show wpAny _ A.in1 (do checkBuiltinCall "tuple.__new__" ⟨[.type "tuple", .ref I], []⟩; again (.builtin "tuple.__new__" ⟨[.type "tuple", .ref I], []⟩)) _ _ s
  refine wpAny_bind (wpAny_of_eq (F.newCall_tuple_1 _) (wpAny_pure ⟨plainId_quiet F.plain_tuple_new _, codeAny_builtin F.entry_tuple_new ?_⟩))
  rw [Around.under_plainId F.plain_tuple_new _]
  have hsub := sub_tuple_self
  have hinit := init_tuple_lookup
  have hmh := madeHere_tuple
  have hTI := hT 0 s hst
  wp_walk using wpAny_typeOf hTI, collect_zip (hn := hsz) W hT hst hfp hI
  intro s' acc hm hacc
  show wpAny _ _ (Builtin.Tuple.tupleExact acc.toList.toArray >>= fun v => ret v) _ _ _
  unfold Builtin.Tuple.tupleExact
  refine wpAny_bind (wpAny_newObj_type ?_ (by show acc.toList.toArray.size ≤ sizeLine; simp only [Array.toArray_toList]; rw [hacc.1]; exact hsz))
  refine wpAny_pure ?_
  have e : acc.toList.toArray = acc := by simp
  rw [e]
  exact h s' acc hm hacc
theorem call_tuple_zip {Q : Value → Shared → Prop} (W : WalksS prog w A.in1.in1.in1 I fp wr G n P St) (hT : ∀ i s, St i s → s.TypeIs (.ref I) "zip") (hst : St 0 s) (hfp : ∀ b ∈ fp, b < s.heap.objs.size) (hI : I ∈ fp)
    (hQ : ∀ s' acc, Moved wr G s s' → ItemsOf P acc n → Q (.ref s'.heap.objs.size) { s' with heap := s'.heap.push { cls := .type "tuple", data := .seq acc } }) (hsz : n ≤ sizeLine) :
    wpAny (model prog w) A (call (.type "tuple") [.ref I]) Q E s := by
  refine callType_codes (Q₁ := fun obj s₁ => s₁.TypeIs obj "tuple" ∧ Q obj s₁) F.called_tuple (F.typeCall_tuple_1 _) F.entry_object_init
    (code_tuple_new_zip (hsz := hsz) W hT hst hfp hI fun s' acc hm hacc => ⟨⟨_, Heap.get?_push_size _ rfl, rfl⟩, hQ s' acc hm hacc⟩) fun obj s₁ h₁ => ?_
  exact ⟨h₁.1, F.args_object_init_2 obj _, object_init_meets F.called_tuple.init.lookup F.called_tuple.made (by decide) prog w A.in1 _ s₁ ⟨h₁.1, rfl, h₁.2⟩⟩
end
section
variable {prog : Program} {w : World} {A : Around} {E : Value → Shared → Prop} {s : Shared} {h₀ : Heap} {L x y : Addr} {m : Str → Option Value} {news : List (Addr × Obj)} {vs us : List Value}
theorem sorted_tup {t : Addr} {ns : List Int} {Q : Value → Shared → Prop} (F : Fr h₀ L s.heap m) (N : News h₀ L s.heap news) (ht : (t, tupO vs) ∈ news) (hI : IntsAre vs ns) (h64 : ns.length < 60)
    (h : ∀ D h' vs' ns' e, Fr h₀ L h' m → News h₀ L h' ((D, listOf (List.toArray vs') e) :: news) → (∀ p ∈ news, p.1 < D) → IntsAre vs' ns' → ns'.Perm ns → ns'.Pairwise (· ≤ ·) → Q (.ref D) { s with heap := h' }) :
    wpAny (model prog w) A (call (.builtin "sorted") [.ref t]) Q E s := by
  have hl := hI.length
  refine Calls.call_function_entry kind_sorted plain_sorted entry_sorted (args_sorted1 _) ?_
  unfold Builtin.«sorted»
  refine wpAny_bind (m := checkCount "sorted" 1 1 _) (wpAny_pure ?_)
  refine wpAny_bind (wpAny_collect_seq t (.inr rfl) (N _ ht).1 rfl rfl (fun h1 hk => ?_) (by rw [List.size_toArray, sizeLine_eq]; omega))
  rw [show vs.toArray.toList = vs from rfl]
  refine wpAny_bind (wpAny_newList ?_ (by rw [sizeLine_eq]; omega))
  have F₁ : Fr h₀ L h1 m := F.kept hk
  have N₁ : News h₀ L h1 news := N.grown hk
  have hoL : (h1.push (seqObj "list" vs.toArray 0)).get? h1.objs.size = some (seqObj "list" vs.toArray 0) := Heap.get?_push_size _ rfl
  refine wpAny_bind (wpAny_holding (wpAny_call_entry slot_list_sort ⟨_, hoL, rfl⟩ entry_list_sort (list_sort_tree hoL hI (by omega) fun out ns' a1 a2 a3 => ⟨_, rfl, ?_⟩) (args_list_sort _)))
  obtain ⟨e, he⟩ := sortedHeap_at (out := out) hoL
  have old : ∀ b o, h1.get? b = some o → (sortedHeap (h1.push (seqObj "list" vs.toArray 0)) h1.objs.size vs out).get? b = some o := fun b o hb => by
    have hlt := Heap.lt_size hb
    rw [sortedHeap_old (Nat.ne_of_lt hlt) (by rw [size_push']; exact Nat.lt_succ_of_lt hlt)]
    exact Heap.get?_push_of_some _ hb
  exact wpAny_pure ⟨_, rfl, h _ _ out.toList ns' e (F₁.kept old) (N₁.kept_cons F₁ old (Nat.le_refl _) he) (fun p hp => Heap.lt_size (N₁ p hp).1) a1 a2 a3⟩
structure ZipK (h : Heap) (L I x y : Addr) (vs us : List Value) (news : List (Addr × Obj)) : Prop where
  st : ZSt h (I + 4) (I + 2) (I + 3) I (I + 1) x y vs.toArray us.toArray 0
  L : L < I
  x : x < I
  y : y < I
  all : ∀ p ∈ news, p.1 < I
  size : I + 5 ≤ h.objs.size
theorem zipK_ {Q : Value → Shared → Prop} (F : Fr h₀ L s.heap m) (N : News h₀ L s.heap news) (hx : (x, tupO vs) ∈ news) (hy : (y, tupO us) ∈ news)
    (h : ∀ (I : Nat) h', Fr h₀ L h' m → News h₀ L h' news → ZipK h' L I x y vs us news → Q (.ref (I + 4)) { s with heap := h' }) :
    wpAny (model prog w) A (call (.type "zip") [.ref x, .ref y]) Q E s := by
  have hX := N _ hx
  have hY := N _ hy
  refine call_zip_tups (tupO_tup N hx) (tupO_tup N hy) fun h' hz hTI hTO hi1 hi2 hsz hk => ?_
  exact h s.heap.objs.size h' (F.keeps hk) (N.grown hk) ⟨⟨⟨_, _, hz, .inl rfl⟩, hTI, ⟨_, _, hTO⟩, hi1, hi2, tup_at (tupO_tup N hx) fun o e => hk _ o e, tup_at (tupO_tup N hy) fun o e => hk _ o e⟩, F.ns.lt, Heap.lt_size hX.1, Heap.lt_size hY.1, fun p hp => Heap.lt_size (N p hp).1, by rw [hsz]; exact Nat.le_refl _⟩
theorem tupleK_ {I : Nat} {Q : Value → Shared → Prop} (F : Fr h₀ L s.heap m) (N : News h₀ L s.heap news) (Z : ZipK s.heap L I x y vs us news) (hh : A.handled = none) (hl : vs.length ≤ 100)
    (h : ∀ D zs h' tk', Fr h₀ L h' m → News h₀ L h' ((D, tupO zs) :: news) → (∀ p ∈ news, p.1 < D) → Q (.ref D) { s with heap := h', toks := tk' }) :
    wpAny (model prog w) A (call (.type "tuple") [.ref (I + 4)]) Q E s := by
  have D : ZipApart (I + 4) (I + 2) (I + 3) I (I + 1) x y := ktu_apart I x y Z.x Z.y
  have hhh : A.in1.in1.in1.handled = none := hh
  refine call_tuple_zip (zip_walks (prog := prog) (w := w) (A := A.in1.in1.in1) hhh _ _ _ _ _ _ _ D vs.toArray us.toArray).toS (fun i s' S => ZSt.type S) Z.st (fun b hb => ?_) (by simp) (fun s' acc hm hacc => ?_) (by
    rw [sizeLine_eq, List.size_toArray, List.size_toArray]
    have := Nat.min_le_left vs.length us.length
    omega)
  · have hs := Z.size
    have hx := Z.x
    have hy := Z.y
    have e : b = I + 4 ∨ b = I + 2 ∨ b = I + 3 ∨ b = I ∨ b = I + 1 ∨ b = x ∨ b = y := by simpa using hb
    have hs' : I + 4 < s.heap.objs.size := Nat.lt_of_lt_of_le (Nat.lt_succ_self _) hs
    rcases e with rfl | rfl | rfl | rfl | rfl | rfl | rfl
    · exact hs'
    · exact Nat.lt_trans (Nat.add_lt_add_left (by decide) I) hs'
    · exact Nat.lt_trans (Nat.add_lt_add_left (by decide) I) hs'
    · exact Nat.lt_of_le_of_lt (Nat.le_add_right _ 4) hs'
    · exact Nat.lt_trans (Nat.add_lt_add_left (by decide) I) hs'
    · exact Nat.lt_trans hx (Nat.lt_of_le_of_lt (Nat.le_add_right _ 4) hs')
    · exact Nat.lt_trans hy (Nat.lt_of_le_of_lt (Nat.le_add_right _ 4) hs')
  · obtain ⟨hp, gs, dr, tk, os⟩ := s'
    have hg : gs = s.gens := hm.gens
    have hd : dr = s.drawn := hm.drawn
    have ho : os = s.os := hm.os
    subst hg hd ho
    have low : ∀ b : Nat, b < I → b ∉ [I + 4, I + 3, I, I + 1] := fun b hb hmem => by
      have e : b = I + 4 ∨ b = I + 3 ∨ b = I ∨ b = I + 1 := by simpa using hmem
      omega
    have keep : ∀ (b : Nat) o, b < I → s.heap.get? b = some o → hp.get? b = some o := fun b o hb e => hm.heap b o (low b hb) e
    have F₁ : Fr h₀ L hp m := by
      refine ⟨F.ns.at' fun o e => keep L o Z.L e, fun b o e => keep b o (Nat.lt_of_lt_of_le (Heap.lt_size e) (Nat.le_trans F.above (Nat.le_of_lt Z.L))) (F.keep b o e), F.above⟩
    have N₁ : News h₀ L hp news := fun p hp' => ⟨keep _ _ (Z.all p hp') (N p hp').1, (N p hp').2⟩
    have e : acc = acc.toList.toArray := by simp
    refine h _ acc.toList _ tk (F₁.push _) ?_ (fun p hp' => Heap.lt_size (N₁ p hp').1)
    have := N₁.push F₁ { cls := .type "tuple", data := .seq acc }
    rw [e] at this
    simpa using this
end
end
section
open AutoSeq1 (wpAny_loadPart')
noncomputable def lexLt : List Int → List Int → Bool
  | [], [] => false
  | [], _ :: _ => true
  | _ :: _, [] => false
  | a :: r, b :: t => if a = b then lexLt r t else decide (a < b)
theorem ints_size {xs : Array Value} {ns : List Int} (h : IntsAre xs.toList ns) : xs.size = ns.length := by
  have := h.length
  simpa using this
theorem rc_lt {prog : Program} {w : World} {A : Around} {E : Value → Shared → Prop} {s : Shared} {a b : Int} {t u : Tok} {Q : Value → Shared → Prop} (h : Q (.bool (decide (a < b))) s) : wpAny (model prog w) A (richCompare .Lt (.int a t) (.int b u)) Q E s := PySem.P.lt_int h
theorem meets_tup_lt (l b : Addr) (items items2 : Array Value) (n n2 : Nat) (ns ms : List Int) (hi : IntsAre items.toList ns) (hj : IntsAre items2.toList ms) :
    Meets (Builtin.«tuple.__lt__» ⟨[.ref l, .ref b], []⟩)
      (fun _ R s => s.heap.get? l = some { cls := .type "tuple", data := .seq items n } ∧ s.heap.get? b = some { cls := .type "tuple", data := .seq items2 n2 } ∧ R (.ok (.ret (.bool (lexLt ns ms)))) s) :=
  .of_wp fun prog w A R s h => by
    obtain ⟨hp, g, d, tk, os⟩ := s; obtain ⟨hl, hb, h⟩ := h
    have f2 := AutoSeq1.sub_tuple_tuple
    wp_walk using wpAny_loadPart' hl, wpAny_loadPart' hb, wpAny_forIn_list _ (fun rest b s' => b.1 = none ∧ s' = ⟨hp, g, d, tk, os⟩ ∧ ∃ xs ys as bs, rest = List.zip xs ys ∧ IntsAre xs as ∧ IntsAre ys bs ∧ items.size + bs.length = items2.size + as.length ∧
      R (.ok (.ret (.bool (lexLt as bs)))) ⟨hp, g, d, tk, os⟩) _
    case turn =>
      rintro ⟨x, y⟩ rest b s' ⟨hb', rfl, xs, ys, as, bs, hz, hx, hy, hs, hR⟩
      cases hx with
      | nil => simp at hz
      | cons p t hx' =>
        cases hy with
        | nil => simp at hz
        | cons q u hy' =>
          simp only [List.zip_cons_cons, List.cons.injEq, Prod.mk.injEq] at hz
          obtain ⟨⟨rfl, rfl⟩, hrest⟩ := hz
          refine wpAny_bind (wpAny_eqBool_int ?_)
          cases hpq : (p == q) with
          | true =>
            have e : p = q := by simpa using hpq
            subst e
            simp only [lexLt, if_true] at hR
            wp_walk
            exact ⟨rfl, rfl, _, _, _, _, hrest, hx', hy', by simp only [List.length_cons] at hs; omega, hR⟩
          | false =>
            have e : ¬ p = q := by simpa using hpq
            simp only [lexLt, e, if_false] at hR
            wp_walk using rc_lt
            exact ⟨_, rfl, hR⟩
    case fin =>
      rintro ⟨b1, b2⟩ s' ⟨hb', rfl, xs, ys, as, bs, hz, hx, hy, hs, hR⟩
      simp only at hb'
      subst hb'
      wp_walk
      refine ⟨_, rfl, ?_⟩
      have e : lexLt as bs = decide (items.size < items2.size) := by
        cases hx with
        | nil =>
          cases hy with
          | nil => simp only [lexLt, List.length_nil] at hs ⊢; exact (decide_eq_false (by omega)).symm
          | cons q u hy' => simp only [lexLt, List.length_nil, List.length_cons] at hs ⊢; exact (decide_eq_true (by omega)).symm
        | cons p t hx' =>
          cases hy with
          | nil => simp only [lexLt, List.length_nil, List.length_cons] at hs ⊢; exact (decide_eq_false (by omega)).symm
          | cons q u hy' => simp at hz
      rw [e] at hR
      exact hR
    case h =>
      refine ⟨rfl, rfl, items.toList, items2.toList, ns, ms, rfl, hi, hj, ?_, h⟩
      rw [ints_size hi, ints_size hj]
      omega
section
variable {prog : Program} {w : World} {A : Around} {E : Value → Shared → Prop} {s : Shared} {h₀ : Heap} {L : Addr} {m : Str → Option Value} {news : List (Addr × Obj)} {vs us : List Value} {ns ms : List Int}
theorem lt_tups {l b : Addr} {Q : Value → Shared → Prop} (N : News h₀ L s.heap news) (hl : (l, tupO vs) ∈ news) (hb : (b, tupO us) ∈ news) (hi : IntsAre vs ns) (hj : IntsAre us ms) (hu : A.units < cLine)
    (h : Q (.bool (lexLt ns ms)) s) : wpAny (model prog w) A (compareOp .Lt (.ref l) (.ref b)) Q E s := by
  refine cmp_ofLt ?_
  exact richCompare_meets_room (op := .Lt) ⟨_, (N _ hl).1, rfl⟩ ⟨_, (N _ hb).1, rfl⟩ PySem.F.slot_tuple_lt PySem.F.entry_tuple_lt (PySem.F.args_tuple_lt_2 _ _) (meets_tup_lt l b vs.toArray us.toArray 0 0 ns ms hi hj)
    ⟨(N _ hl).1, (N _ hb).1, show Value.bool (lexLt ns ms) ≠ Value.notImplemented ∧ Q (.bool (lexLt ns ms)) s from ⟨(fun x => nomatch x), h⟩⟩ hu
theorem idx_list {l : Addr} {n : Nat} {k : Int} {t : Tok} {Q : Value → Shared → Prop} (N : News h₀ L s.heap news) (hm : (l, listOf vs.toArray n) ∈ news) (hi : IntsAre vs ns) (hl : ns.length ≤ 100) (hk : (ns.any fun x => x == k) = true)
    (h : ∀ tk tk', ns.idxOf k < ns.length → Q (.int (ns.idxOf k : Nat) tk) { s with toks := tk' }) : wpAny (model prog w) A (call (.builtin "list.index") [.ref l, .int k t]) Q E s := by
  have hk' : k ∈ ns := by
    obtain ⟨x, hx, e⟩ := List.any_eq_true.mp hk
    rw [← eq_of_beq e]; exact hx
  have hlen := hi.length
  have hj : ns.idxOf k < ns.length := List.idxOf_lt_length_iff.mpr hk'
  refine call_meets PySem.F.slot_list_index ⟨_, (N _ hm).1, rfl⟩ PySem.F.entry_list_index (PySem.F.args_list_index_2 _ _)
    (MeetsSeq.list_index l vs.toArray n (.int k t) (isInt k) (fun y hy => eq_isInt k t hi y (by simpa using hy)) (ns.idxOf k) (by simpa [hlen] using hj) (by omega) ?_ ?_) ⟨(N _ hm).1, h _ _ hj⟩
  · show isInt k vs[ns.idxOf k] = true
    rw [isInt_at k hi _ (by omega) hj]
    simpa using List.getElem_idxOf hj
  · intro j hjs hlt
    show isInt k vs[j] = false
    rw [isInt_at k hi j (by simpa using hjs) (by omega)]
    exact ne_of_lt_idxOf hlt _
theorem tup_pick (xs : Array Value) (lo k : Nat) : ((List.range k).filterMap fun (j : Nat) => xs[((lo : Int) + (j : Int) * 1).toNat]?).toArray = ((xs.toList.drop lo).take k).toArray := by
  have e : (fun (j : Nat) => xs[((lo : Int) + (j : Int) * 1).toNat]?) = fun j => xs[lo + j]? := by
    funext j
    rw [show ((lo : Int) + (j : Int) * 1).toNat = lo + j by omega]
  have := pick_run xs lo k
  rw [List.filterMap_map] at this
  rw [e]
  exact congrArg List.toArray this
theorem getItem_tup_cut {t sl : Addr} {items : Array Value} {lo k : Nat} {Q : Value → Shared → Prop} (ht : IsTup s.heap t items) (hTs : s.TypeIs (.ref sl) "slice") (hz : items.size ≤ sizeLine) (hlk : lo + k ≤ items.size)
    (hap : ∀ (A : Around) (E : Value → Shared → Prop) (Q : Int × Int × Nat → Shared → Prop), Q ((lo : Int), 1, k) s → wpAny (model prog w) A (Builtin.Slice.sliceApplied (.ref sl) (pure (items.size : Int))) Q E s)
    (h0 : lo = 0 → k = items.size → Q (.ref t) s) (h : Q (.ref s.heap.objs.size) { s with heap := s.heap.push { cls := .type "tuple", data := .seq ((items.toList.drop lo).take k).toArray } }) : wpAny (model prog w) A (getItem (.ref t) (.ref sl)) Q E s := by
  have hok : sizeOk (.seq ((items.toList.drop lo).take k).toArray) := by
    show ((items.toList.drop lo).take k).toArray.size ≤ sizeLine
    rw [List.size_toArray, List.length_take, List.length_drop, Array.length_toList]
    omega
  unfold getItem
  try with_reducible refine wpAny_holding ?_
  first | refine wpAny_bind (wpAny_pure ?_) | skip
  refine wpAny_bind (wpAny_sequenceKey ht.typeIs (by decide) ?_)
  refine wpAny_bind (wpAny_callSpecial?_slot (name := Str.ofString "__getitem__") ht.typeIs slot_tuple_getitem
    (wpAny_call_entry slot_tuple_getitem ht.typeIs entry_tuple_getitem ?_ (args_tuple_getitem _ _)))
  show wpAny _ _ (Builtin.Tuple.tupleItemsOf (.ref t) >>= _) _ _ s
  refine wpAny_bind (tupleItemsOf_ ht ?_)
  refine wpAny_bind (wpAny_typeOf hTs ?_)
  rw [if_pos (by decide)]
  refine wpAny_bind (hap _ _ _ ?_)
  by_cases hw : lo = 0 ∧ k = items.size
  · obtain ⟨rfl, rfl⟩ := hw
    show wpAny _ _ (if ((0 : Int) == 0 && (1 : Int) == 1 && items.size == items.size) = true then _ else _) _ _ s
    rw [if_pos (by simp)]
    obtain ⟨o, ho, hc, n, hd⟩ := id ht
    refine wpAny_bind (m := Builtin.Tuple.tupleIsExact (.ref t)) ?_
    unfold Builtin.Tuple.tupleIsExact
    refine wpAny_bind (wpAny_typeOf ht.typeIs (wpAny_pure ?_))
    rw [if_pos (by rfl)]
    exact wpAny_bind (wpAny_rule (wpAny_pure ⟨_, rfl, wpAny_pure (h0 rfl rfl)⟩))
  · have hno : ¬ (((lo : Int) == 0 && (1 : Int) == 1 && k == items.size) = true) := by
      intro hh
      simp only [Bool.and_eq_true, beq_iff_eq] at hh
      exact hw ⟨by omega, hh.2⟩
    show wpAny _ _ (if ((lo : Int) == 0 && (1 : Int) == 1 && k == items.size) = true then _ else _) _ _ s
    rw [if_neg hno, tup_pick]
    exact wpAny_bind (m := Builtin.Tuple.tupleExact _) (wpAny_newObj_type (wpAny_pure ⟨_, rfl, wpAny_pure h⟩) hok)
theorem applied_upto {A : Around} {E : Value → Shared → Prop} {sl : Addr} {n : Nat} {b : Int} {u : Tok} {Q : Int × Int × Nat → Shared → Prop} (hs : s.heap.IsSliceOf sl .none (.int b u) .none) (hb0 : 0 ≤ b) (hb : b ≤ n) (h : Q (((0 : Nat) : Int), 1, b.toNat) s) :
    wpAny (model prog w) A (Builtin.Slice.sliceApplied (.ref sl) (pure (n : Int))) Q E s := by
  obtain ⟨os, hos, hcs, hds⟩ := id hs
  unfold Builtin.Slice.sliceApplied Builtin.Slice.sliceFields
  refine wpAny_bind (wpAny_bind (wpAny_field hos hds (x := .none) rfl (wpAny_bind (wpAny_field hos hds (x := .int b u) rfl (wpAny_bind (wpAny_field hos hds (x := .none) rfl (wpAny_pure ?_)))))))
  refine wpAny_bind (slicePart_none ?_)
  show wpAny _ _ (if ((1 : Int) == 0) = true then _ else _) _ _ s
  rw [if_neg (by decide)]
  refine wpAny_bind (slicePart_none (wpAny_bind (slicePart_int (wpAny_bind (wpAny_pure ?_)))))
  have e1 : Builtin.Slice.sliceAdjust none (some b) 1 (n : Int) = ((0 : Int), b) := by
    unfold Builtin.Slice.sliceAdjust
    have h1 : ¬ ((1 : Int) < 0) := by omega
    have h2 : ¬ (b < 0) := by omega
    simp only [h1, h2, if_false]
    congr 1
    omega
  have e2 : Builtin.Slice.slicePlaces (0 : Int) b 1 = b.toNat := by
    unfold Builtin.Slice.slicePlaces
    have h1 : (1 : Int) > 0 := by omega
    simp only [h1, if_true, Int.ediv_one]
    split <;> omega
  show wpAny _ _ (match Builtin.Slice.sliceAdjust none (some b) 1 (n : Int) with | (lo, hi) => pure (lo, (1 : Int), Builtin.Slice.slicePlaces lo hi 1)) _ _ s
  rw [e1]
  show wpAny _ _ (pure ((0 : Int), (1 : Int), Builtin.Slice.slicePlaces (0 : Int) b 1)) _ _ s
  rw [e2]
  exact wpAny_pure h
theorem applied_from {A : Around} {E : Value → Shared → Prop} {sl : Addr} {n : Nat} {a : Int} {u : Tok} {Q : Int × Int × Nat → Shared → Prop} (hs : s.heap.IsSliceOf sl (.int a u) .none .none) (ha0 : 0 ≤ a) (ha : a ≤ n) (h : Q (((a.toNat : Nat) : Int), 1, n - a.toNat) s) :
    wpAny (model prog w) A (Builtin.Slice.sliceApplied (.ref sl) (pure (n : Int))) Q E s := by
  obtain ⟨k, rfl⟩ : ∃ k : Nat, a = k := ⟨a.toNat, by omega⟩
  exact sliceApplied_from hs (by omega) h
theorem subTail_ops {value slice : Expr} {o i : Value} {T id : String} {ops : List Value} {Q : Value → Shared → Prop} (hT : s.TypeIs o T)
    (hl : typeLookup (.type T) "__getitem__" = pure (some (.builtin id))) (h : wpAny (model prog w) A (getItem o i) Q E s)
    (hs : subscripted slice false o i = operate ops (getItem o i)) :
    wpAny (model prog w) A (subscriptTail value slice o i) Q E s := by
  unfold subscriptTail
  refine wpAny_bind ?_
  rw [getitemInPython_of_ne hT.not_modules]
  refine wpAny_bind (wpAny_specialOf hT hl ?_)
  have fin : wpAny (model prog w) A (subscripted slice false o i) (fun r s₃ => wpAny (model prog w) A (letTemporaryGo value o r >>= fun _ => pure r) Q E s₃) E s := by
    rw [hs]
    exact wpAny_operating (wpAny_mono h (fun r s₃ h₃ => wpAny_bind (wpAny_letTemporaryGo (wpAny_pure h₃))) fun _ _ x => x)
  first
    | exact wpAny_pure (wpAny_bind fin)
    | exact wpAny_bind (wpAny_pure (wpAny_bind fin))
    | exact wpAny_bind fin
theorem cut_upto {value slice : Expr} {t : Addr} {b : Int} {u : Tok} {Q : Value → Shared → Prop} (F : Fr h₀ L s.heap m) (N : News h₀ L s.heap news) (ht : (t, tupO vs) ∈ news) (hi : IntsAre vs ns) (hl : ns.length ≤ 100) (hb0 : 0 ≤ b) (hb : b ≤ (ns.length : Int))
    (h : ∀ z h' zs, Fr h₀ L h' m → News h₀ L h' ((z, tupO zs) :: news) → IntsAre zs (ns.take b.toNat) → (ns.take b.toNat).length = b.toNat → Q (.ref z) { s with heap := h' })
    (hs : subscripted slice false (.ref t) (.ref s.heap.objs.size) = operate [.ref s.heap.objs.size, .ref t] (getItem (.ref t) (.ref s.heap.objs.size))) :
    wpAny (model prog w) A (subscriptTail value slice (.ref t) (.ref s.heap.objs.size)) Q E { s with heap := s.heap.push { cls := .type "slice", data := .fields #[.none, .int b u, .none] } } := by
  have hT := tupO_tup N ht
  have hlen := hi.length
  have ht' : IsTup (s.heap.push { cls := .type "slice", data := .fields #[.none, .int b u, .none] }) t vs.toArray := hT.keeps fun _ _ e => Heap.get?_push_of_some _ e
  have F1 := F.push { cls := .type "slice", data := .fields #[.none, .int b u, .none] }
  have N1 : News h₀ L (s.heap.push { cls := .type "slice", data := .fields #[.none, .int b u, .none] }) news := N.grown fun _ _ e => Heap.get?_push_of_some _ e
  have hI := hi.take b.toNat
  have hL : (ns.take b.toNat).length = b.toNat := by rw [List.length_take]; omega
  refine subTail_ops (s := { s with heap := s.heap.push { cls := .type "slice", data := .fields #[.none, .int b u, .none] } }) ht'.typeIs slot_tuple_getitem.lookup
    (getItem_tup_cut (lo := 0) (k := b.toNat) ht' ⟨_, Heap.get?_push_size _ rfl, rfl⟩ (by rw [List.size_toArray, sizeLine_eq]; omega) (by rw [List.size_toArray]; omega) (fun A E Q hq => applied_upto (Heap.IsSliceOf.new ..) hb0 (by rw [List.size_toArray]; omega) hq) (fun _ e => ?_) ?_) hs
  · have e2 : vs.take b.toNat = vs := List.take_of_length_le (by rw [List.size_toArray] at e; omega)
    refine h t _ vs F1 (fun p hp => ?_) (by rw [e2] at hI; exact hI) hL
    rcases List.mem_cons.mp hp with rfl | hp
    · exact N1 _ ht
    · exact N1 _ hp
  · exact h _ _ (vs.take b.toNat) (F1.push _) (by have := N1.push F1 { cls := .type "tuple", data := .seq ((vs.toArray.toList.drop 0).take b.toNat).toArray }; simpa using this) hI hL
theorem cut_from {value slice : Expr} {t : Addr} {a : Int} {u : Tok} {Q : Value → Shared → Prop} (F : Fr h₀ L s.heap m) (N : News h₀ L s.heap news) (ht : (t, tupO vs) ∈ news) (hi : IntsAre vs ns) (hl : ns.length ≤ 100) (ha0 : 0 ≤ a) (ha : a ≤ (ns.length : Int))
    (h : ∀ z h' zs, Fr h₀ L h' m → News h₀ L h' ((z, tupO zs) :: news) → IntsAre zs (ns.drop a.toNat) → (ns.drop a.toNat).length = ns.length - a.toNat → Q (.ref z) { s with heap := h' })
    (hs : subscripted slice false (.ref t) (.ref s.heap.objs.size) = operate [.ref s.heap.objs.size, .ref t] (getItem (.ref t) (.ref s.heap.objs.size))) :
    wpAny (model prog w) A (subscriptTail value slice (.ref t) (.ref s.heap.objs.size)) Q E { s with heap := s.heap.push { cls := .type "slice", data := .fields #[.int a u, .none, .none] } } := by
  have hT := tupO_tup N ht
  have hlen := hi.length
  have ht' : IsTup (s.heap.push { cls := .type "slice", data := .fields #[.int a u, .none, .none] }) t vs.toArray := hT.keeps fun _ _ e => Heap.get?_push_of_some _ e
  have F1 := F.push { cls := .type "slice", data := .fields #[.int a u, .none, .none] }
  have N1 : News h₀ L (s.heap.push { cls := .type "slice", data := .fields #[.int a u, .none, .none] }) news := N.grown fun _ _ e => Heap.get?_push_of_some _ e
  have hI := hi.drop a.toNat
  have hL : (ns.drop a.toNat).length = ns.length - a.toNat := List.length_drop ..
  refine subTail_ops (s := { s with heap := s.heap.push { cls := .type "slice", data := .fields #[.int a u, .none, .none] } }) ht'.typeIs slot_tuple_getitem.lookup
    (getItem_tup_cut (lo := a.toNat) (k := vs.toArray.size - a.toNat) ht' ⟨_, Heap.get?_push_size _ rfl, rfl⟩ (by rw [List.size_toArray, sizeLine_eq]; omega) (by rw [List.size_toArray]; omega) (fun A E Q hq => applied_from (Heap.IsSliceOf.new ..) ha0 (by rw [List.size_toArray]; omega) hq) (fun e _ => ?_) ?_) hs
  · have e2 : vs.drop a.toNat = vs := by rw [e]; rfl
    refine h t _ vs F1 (fun p hp => ?_) (by rw [e2] at hI; exact hI) hL
    rcases List.mem_cons.mp hp with rfl | hp
    · exact N1 _ ht
    · exact N1 _ hp
  · have e3 : (vs.toArray.toList.drop a.toNat).take (vs.toArray.size - a.toNat) = vs.drop a.toNat := List.take_of_length_le (by rw [List.length_drop, List.size_toArray]; exact Nat.le_refl _)
    exact h _ _ (vs.drop a.toNat) (F1.push _) (by have := N1.push F1 { cls := .type "tuple", data := .seq ((vs.toArray.toList.drop a.toNat).take (vs.toArray.size - a.toNat)).toArray }; rw [e3] at this; rw [e3]; exact this) hI hL
theorem reads_tup {h : Heap} {t : Addr} (hn : h.get? t = some (tupO vs)) (hi : IntsAre vs ns) : Reads h (.ref t) (.tuple (ns.map PyData.int)) [] :=
  .tuple hn rfl rfl (readsAll_of_ints hi)
theorem shaped_tup (ns : List Int) : SeqAt.shaped (.tuple (ns.map PyData.int)) = true := by
  have h1 := W.depthAll_ints ns
  have h2 : PyData.depth (.tuple (ns.map PyData.int)) ≤ 64 := by simp only [PyData.depth]; omega
  show (PyData.canLay0 (.tuple (ns.map PyData.int)) && decide (PyData.depth (.tuple (ns.map PyData.int)) ≤ 64)) = true
  rw [Bool.and_eq_true]
  exact ⟨by simp only [PyData.canLay0]; exact canLayAll0_ints ns, decide_eq_true h2⟩
theorem eq_tups {l b : Addr} {Q : Value → Shared → Prop} (N : News h₀ L s.heap news) (hl : (l, tupO vs) ∈ news) (hb : (b, tupO us) ∈ news) (hi : IntsAre vs ns) (hj : IntsAre us ms) (hu : A.units + 64 < cLine)
    (h : Q (.bool (decide (ns = ms))) s) : wpAny (model prog w) A (compareOp .Eq (.ref l) (.ref b)) Q E s :=
  eq_dataH_same (reads_tup (N _ hl).1 hi) (reads_tup (N _ hb).1 hj) (shaped_tup ns) (shaped_tup ms) hu (by simp only [SeqAt.noMix]; exact noMix_ints ns ms) (by simp only [PySem.Spec.same]; rw [same_ints]; exact h)
theorem cutl_upto {value slice : Expr} {t : Addr} {e : Nat} {b : Int} {u : Tok} {Q : Value → Shared → Prop} (F : Fr h₀ L s.heap m) (N : News h₀ L s.heap news) (ht : (t, listOf vs.toArray e) ∈ news) (hi : IntsAre vs ns) (hl : ns.length ≤ 100) (hb0 : 0 ≤ b) (hb : b ≤ (ns.length : Int))
    (h : ∀ (z : Nat) h' zs, Fr h₀ L h' m → News h₀ L h' ((z, listOf (List.toArray zs) 0) :: news) → (∀ p ∈ news, p.1 < z) → IntsAre zs (ns.take b.toNat) → (ns.take b.toNat).length = b.toNat → Q (.ref z) { s with heap := h' })
    (hs : subscripted slice false (.ref t) (.ref s.heap.objs.size) = operate [.ref s.heap.objs.size, .ref t] (getItem (.ref t) (.ref s.heap.objs.size)))
    (hg : ∀ r, letTemporaryGo value (.ref t) r = pure ()) :
    wpAny (model prog w) A (subscriptTail value slice (.ref t) (.ref s.heap.objs.size)) Q E { s with heap := s.heap.push { cls := .type "slice", data := .fields #[.none, .int b u, .none] } } := by
  have hlen := hi.length
  refine slice_list F N (News.isList N ht) .none (.int b u) (fun h' F' N' => h _ h' (slicePick vs.toArray none (some b) none).toList F' ?_ (fun p hp => Nat.lt_succ_of_lt (Heap.lt_size (N p hp).1)) (slice_ints_uptoW hi hb0) (by rw [List.length_take]; omega)) hs hg (by rw [List.size_toArray, sizeLine_eq]; omega)
  rw [Array.toArray_toList]
  exact N'
theorem cutl_from {value slice : Expr} {t : Addr} {e : Nat} {a : Int} {u : Tok} {Q : Value → Shared → Prop} (F : Fr h₀ L s.heap m) (N : News h₀ L s.heap news) (ht : (t, listOf vs.toArray e) ∈ news) (hi : IntsAre vs ns) (hl : ns.length ≤ 100) (ha0 : 0 ≤ a) (ha : a ≤ (ns.length : Int))
    (h : ∀ (z : Nat) h' zs, Fr h₀ L h' m → News h₀ L h' ((z, listOf (List.toArray zs) 0) :: news) → (∀ p ∈ news, p.1 < z) → IntsAre zs (ns.drop a.toNat) → (ns.drop a.toNat).length = ns.length - a.toNat → Q (.ref z) { s with heap := h' })
    (hs : subscripted slice false (.ref t) (.ref s.heap.objs.size) = operate [.ref s.heap.objs.size, .ref t] (getItem (.ref t) (.ref s.heap.objs.size)))
    (hg : ∀ r, letTemporaryGo value (.ref t) r = pure ()) :
    wpAny (model prog w) A (subscriptTail value slice (.ref t) (.ref s.heap.objs.size)) Q E { s with heap := s.heap.push { cls := .type "slice", data := .fields #[.int a u, .none, .none] } } := by
  have hlen := hi.length
  refine slice_list F N (News.isList N ht) (.int a u) .none (fun h' F' N' => h _ h' (slicePick vs.toArray (some a) none none).toList F' ?_ (fun p hp => Nat.lt_succ_of_lt (Heap.lt_size (N p hp).1)) (slice_ints_fromW hi ha0) (List.length_drop ..)) hs hg (by rw [List.size_toArray, sizeLine_eq]; omega)
  rw [Array.toArray_toList]
  exact N'
end
section
variable {h₀ : Heap} {L I C D : Addr} {m : Str → Option Value} {s₁ : Shared} {oI oC oD : Obj} {S : List (Addr × Obj) → Prop} {h' : Heap} {tk : Nat} {all news : List (Addr × Obj)} {l r : List Int} {y : Value}
theorem compEnd_el (F : Fr h₀ L h' m) (N : News h₀ L h' all) (sub : ∀ p ∈ (I, oI) :: (C, oC) :: (D, oD) :: news, p ∈ all) (off : LCg.Off3 I C D news) (hS : S news) (k : KCiEl news l r y news) :
    LCg.CompEnd h₀ L m s₁ I oI C oC D oD S (fun y news' => KCiEl news l r y news') y { s₁ with heap := h', toks := tk } := LCg.CompEnd.intro F N news sub off hS k
theorem compEnd_no (F : Fr h₀ L h' m) (N : News h₀ L h' all) (sub : ∀ p ∈ (I, oI) :: (C, oC) :: (D, oD) :: news, p ∈ all) (off : LCg.Off3 I C D news) (hS : S news) (k : KCiNo news l r news) :
    LCg.CompEnd h₀ L m s₁ I oI C oC D oD S (fun _ news' => KCiNo news l r news') y { s₁ with heap := h', toks := tk } := LCg.CompEnd.intro F N news sub off hS k
end
end
section
/-! ## the plain law -/
def EqTo (as bs : List Int) (n : Nat) : Prop := ∀ j, j < n → j < as.length ∧ j < bs.length ∧ as.getD j 0 = bs.getD j 0
noncomputable def lexKeeps (as bs : List Int) (st : Bool) : Bool := lexLt as bs || (decide (as = bs) && !st)
theorem eqTo_zero (as bs : List Int) : EqTo as bs 0 := fun _ h => absurd h (Nat.not_lt_zero _)
theorem eqTo_step {as bs : List Int} {n : Nat} (h : EqTo as bs n) (ha : n < as.length) (hb : n < bs.length) (e : as.getD n 0 = bs.getD n 0) : EqTo as bs (n + 1) := fun j hj => by
  rcases Nat.lt_succ_iff_lt_or_eq.mp hj with h1 | rfl
  · exact h j h1
  · exact ⟨ha, hb, e⟩
theorem eqTo_nil (as bs : List Int) : EqTo as bs ([] : List Int).length := eqTo_zero as bs
theorem eqTo_snoc {as bs pre : List Int} {k : Int} (hk : k = 0 + (pre.length : Int)) (h : EqTo as bs pre.length) (ha : ¬ (as.length : Int) ≤ k) (hb : ¬ (bs.length : Int) ≤ k) (e : as.getD k.toNat 0 = bs.getD k.toNat 0) : EqTo as bs (pre ++ [k]).length := by
  have h1 : k.toNat = pre.length := by omega
  rw [h1] at e
  rw [List.length_append]
  exact eqTo_step h (by omega) (by omega) e
theorem eqTo_tail {a b : Int} {as bs : List Int} {n : Nat} (h : EqTo (a :: as) (b :: bs) (n + 1)) : a = b ∧ EqTo as bs n := by
  refine ⟨by have := (h 0 (Nat.succ_pos _)).2.2; simpa using this, fun j hj => ?_⟩
  have := h (j + 1) (Nat.succ_lt_succ hj)
  simpa using this
theorem lex_short : ∀ (as bs : List Int) (n : Nat), EqTo as bs n → as.length ≤ n → as.length < bs.length → lexLt as bs = true
  | [], [], _, _, _, h => absurd h (Nat.lt_irrefl _)
  | [], _ :: _, _, _, _, _ => rfl
  | _ :: _, [], _, _, _, h => absurd h (Nat.not_lt_zero _)
  | a :: as, b :: bs, 0, _, h, _ => absurd h (Nat.not_succ_le_zero _)
  | a :: as, b :: bs, n + 1, h, h1, h2 => by
    obtain ⟨rfl, ht⟩ := eqTo_tail h
    simp only [lexLt, if_true]
    exact lex_short as bs n ht (Nat.le_of_succ_le_succ h1) (Nat.lt_of_succ_lt_succ h2)
theorem lex_long : ∀ (as bs : List Int) (n : Nat), EqTo as bs n → bs.length ≤ n → bs.length < as.length → lexLt as bs = false
  | [], _, _, _, _, h => absurd h (Nat.not_lt_zero _)
  | _ :: _, [], _, _, _, _ => rfl
  | a :: as, b :: bs, 0, _, h, _ => absurd h (Nat.not_succ_le_zero _)
  | a :: as, b :: bs, n + 1, h, h1, h2 => by
    obtain ⟨rfl, ht⟩ := eqTo_tail h
    simp only [lexLt, if_true]
    exact lex_long as bs n ht (Nat.le_of_succ_le_succ h1) (Nat.lt_of_succ_lt_succ h2)
theorem lex_differ : ∀ (as bs : List Int) (n : Nat), EqTo as bs n → n < as.length → n < bs.length → as.getD n 0 ≠ bs.getD n 0 → lexLt as bs = decide (as.getD n 0 < bs.getD n 0)
  | [], _, _, _, h, _, _ => absurd h (Nat.not_lt_zero _)
  | _ :: _, [], _, _, _, h, _ => absurd h (Nat.not_lt_zero _)
  | a :: as, b :: bs, 0, _, _, _, hne => by
    have e : ¬ a = b := by simpa using hne
    simp only [lexLt, e, if_false, List.getD_cons_zero]
  | a :: as, b :: bs, n + 1, h, h1, h2, hne => by
    obtain ⟨rfl, ht⟩ := eqTo_tail h
    simp only [lexLt, if_true, List.getD_cons_succ]
    exact lex_differ as bs n ht (Nat.lt_of_succ_lt_succ h1) (Nat.lt_of_succ_lt_succ h2) (by simpa using hne)
theorem eqTo_eq : ∀ (as bs : List Int) (n : Nat), EqTo as bs n → as.length ≤ n → bs.length ≤ n → as = bs
  | [], [], _, _, _, _ => rfl
  | [], b :: bs, 0, _, _, h => absurd h (Nat.not_succ_le_zero _)
  | [], b :: bs, n + 1, h, _, _ => absurd (h 0 (Nat.succ_pos _)).1 (Nat.not_lt_zero _)
  | a :: as, [], 0, _, h, _ => absurd h (Nat.not_succ_le_zero _)
  | a :: as, [], n + 1, h, _, _ => absurd (h 0 (Nat.succ_pos _)).2.1 (Nat.not_lt_zero _)
  | a :: as, b :: bs, 0, _, h, _ => absurd h (Nat.not_succ_le_zero _)
  | a :: as, b :: bs, n + 1, h, h1, h2 => by
    obtain ⟨rfl, ht⟩ := eqTo_tail h
    rw [eqTo_eq as bs n ht (Nat.le_of_succ_le_succ h1) (Nat.le_of_succ_le_succ h2)]
theorem lexLt_self : ∀ as : List Int, lexLt as as = false
  | [] => rfl
  | a :: as => by simp only [lexLt, if_true]; exact lexLt_self as
theorem lexEnd_short {as bs : List Int} {st : Bool} {n : Nat} {k : Int} (h : EqTo as bs n) (hk : k = 0 + (n : Int)) (h1 : (as.length : Int) ≤ k) (h2 : n < ((if (bs.length : Int) > as.length then (bs.length : Int) else as.length) - 0).toNat) : decide ((as.length : Int) ≤ k) = lexKeeps as bs st := by
  have e : lexLt as bs = true := lex_short as bs n h (by omega) (by split at h2 <;> omega)
  unfold lexKeeps
  rw [e, decide_eq_true h1]
  rfl
theorem lexEnd_long {as bs : List Int} {st : Bool} {n : Nat} {k : Int} (h : EqTo as bs n) (hk : k = 0 + (n : Int)) (h1 : ¬ (as.length : Int) ≤ k) (h2 : (bs.length : Int) ≤ k) : decide ((as.length : Int) ≤ k) = lexKeeps as bs st := by
  have e : lexLt as bs = false := lex_long as bs n h (by omega) (by omega)
  have ne : as ≠ bs := fun he => by subst he; exact h1 h2
  unfold lexKeeps
  rw [e, decide_eq_false h1, decide_eq_false ne]
  rfl
theorem lexEnd_differ {as bs : List Int} {st : Bool} {n : Nat} {k : Int} (h : EqTo as bs n) (hk : k = 0 + (n : Int)) (h1 : ¬ (as.length : Int) ≤ k) (h2 : ¬ (bs.length : Int) ≤ k) (hne : as.getD k.toNat 0 ≠ bs.getD k.toNat 0) : decide (as.getD k.toNat 0 < bs.getD k.toNat 0) = lexKeeps as bs st := by
  have hk' : k.toNat = n := by omega
  rw [hk'] at hne ⊢
  have e := lex_differ as bs n h (by omega) (by omega) hne
  have ne : as ≠ bs := fun he => by subst he; exact hne rfl
  unfold lexKeeps
  rw [e, decide_eq_false ne]
  simp
theorem lexEnd_all {as bs : List Int} {st : Bool} (h : EqTo as bs (rangeKs 0 ((if (bs.length : Int) > as.length then (bs.length : Int) else as.length) - 0).toNat).length) : (!st) = lexKeeps as bs st := by
  rw [rangeKs_length] at h
  have e : as = bs := eqTo_eq as bs _ h (by split <;> omega) (by split <;> omega)
  subst e
  unfold lexKeeps
  rw [lexLt_self, decide_eq_true rfl]
  simp
theorem lexChk_lt {ns : List Int} {k : Nat} {st : Bool} (h : lexLt (ns.take (k : Int).toNat) (ns.drop (k : Int).toNat) = true) : lexLt (ns.take (k : Int).toNat) (ns.drop (k : Int).toNat) = lexKeeps (ns.take k) (ns.drop k) st := by
  rw [Int.toNat_natCast] at h ⊢
  simp only [lexKeeps, h, Bool.true_or]
theorem lexChk_eq {ns : List Int} {k : Nat} {st : Bool} (h : lexLt (ns.take (k : Int).toNat) (ns.drop (k : Int).toNat) = false) (e : ns.take (k : Int).toNat = ns.drop (k : Int).toNat) : (!st) = lexKeeps (ns.take k) (ns.drop k) st := by
  rw [Int.toNat_natCast] at h e
  simp only [lexKeeps, h, e, decide_true, Bool.true_and, Bool.false_or]
  rw [lexLt_self, Bool.false_or]
theorem lexChk_ne {ns : List Int} {k : Nat} {st : Bool} (h : lexLt (ns.take (k : Int).toNat) (ns.drop (k : Int).toNat) = false) (e : ¬ ns.take (k : Int).toNat = ns.drop (k : Int).toNat) : decide (ns.take (k : Int).toNat = ns.drop (k : Int).toNat) = lexKeeps (ns.take k) (ns.drop k) st := by
  rw [Int.toNat_natCast] at h e ⊢
  simp only [lexKeeps, h, e, decide_false, Bool.false_and, Bool.or_false]
end
section
noncomputable def incB (ns : List Int) : Bool := decide (ns.Pairwise (· ≤ ·))
noncomputable def precB (p q : Int) (ns : List Int) : Bool := !(ns.any fun x => x == q) || (ns.take (ns.idxOf q)).any fun x => x == p
theorem inc_sorted {ns n' : List Int} (hp : n'.Perm ns) (hs : n'.Pairwise (· ≤ ·)) : decide (ns = n') = incB ns := by
  unfold incB
  refine decide_eq_decide.mpr ⟨fun h => h ▸ hs, fun h => ?_⟩
  exact List.Perm.eq_of_pairwise (le := fun a b : Int => a ≤ b) (fun a b _ _ h1 h2 => Int.le_antisymm h1 h2) h hs hp.symm
theorem fold_nil {G : List Int → Int → List Int} {P : Int → Prop} : ∀ (ks : List Int), (∀ l, ∀ k ∈ ks, P k → G l k ≠ []) → (∀ l, ∀ k ∈ ks, ¬ P k → G l k = l) → ∀ l, (ks.foldl G l = [] ↔ l = [] ∧ ∀ k ∈ ks, ¬ P k)
  | [], _, _, l => by simp
  | k :: ks, h1, h0, l => by
    have ih := fold_nil ks (fun l k hk => h1 l k (.tail _ hk)) (fun l k hk => h0 l k (.tail _ hk)) (G l k)
    rw [List.foldl_cons, ih]
    by_cases hP : P k
    · have := h1 l k (.head _) hP
      constructor
      · intro h; exact absurd h.1 this
      · intro h; exact absurd hP (h.2 k (.head _))
    · rw [h0 l k (.head _) hP]
      constructor
      · intro h; refine ⟨h.1, fun k' hk' => ?_⟩
        rcases List.mem_cons.mp hk' with rfl | hk'
        · exact hP
        · exact h.2 k' hk'
      · intro h; exact ⟨h.1, fun k' hk' => h.2 k' (.tail _ hk')⟩
theorem pair_adj : ∀ ns : List Int, ns.Pairwise (· ≤ ·) ↔ ∀ j, j + 1 < ns.length → ns.getD j 0 ≤ ns.getD (j + 1) 0
  | [] => by simp
  | [a] => by simp
  | a :: b :: t => by
    have ih := pair_adj (b :: t)
    rw [List.pairwise_cons, ih]
    constructor
    · intro h j hj
      cases j with
      | zero => simpa using h.1 b (.head _)
      | succ j => simpa using h.2 j (by simpa using hj)
    · intro h
      have h2 : ∀ j, j + 1 < (b :: t).length → (b :: t).getD j 0 ≤ (b :: t).getD (j + 1) 0 := fun j hj => by simpa using h (j + 1) (by simpa using hj)
      refine ⟨fun c hc => ?_, h2⟩
      have hab : a ≤ b := by simpa using h 0 (by simp)
      rcases List.mem_cons.mp hc with rfl | hc
      · exact hab
      · exact Int.le_trans hab ((List.pairwise_cons.mp (ih.mpr h2)).1 c hc)
theorem inc_fold (ns : List Int) : decide (List.foldl (fun (l' : List Int) (k' : Int) => if ns.getD k'.toNat 0 < ns.getD (k' - 1).toNat 0 then l' ++ [1] else l') [] (rangeKs 1 ((ns.length : Int) - 1).toNat) = []) = incB ns := by
  unfold incB
  refine decide_eq_decide.mpr ?_
  rw [fold_nil (P := fun k' => ns.getD k'.toNat 0 < ns.getD (k' - 1).toNat 0) _ (fun l k _ hP => by rw [if_pos hP]; simp) (fun l k _ hP => if_neg hP), pair_adj]
  constructor
  · intro h j hj
    have hm : (j : Int) + 1 ∈ rangeKs 1 ((ns.length : Int) - 1).toNat := List.mem_map.mpr ⟨j, by simp only [List.mem_range]; omega, by omega⟩
    have := h.2 _ hm
    have e1 : ((j : Int) + 1).toNat = j + 1 := rfl
    have e2 : ((j : Int) + 1 - 1).toNat = j := by rw [Int.add_sub_cancel]; rfl
    rw [e1, e2] at this
    omega
  · intro h
    refine ⟨rfl, fun k hk => ?_⟩
    have hm := mem_rangeKs hk
    have := h (k - 1).toNat (by omega)
    have e1 : (k - 1).toNat + 1 = k.toNat := by omega
    rw [e1] at this
    omega
theorem prec_iff (p q : Int) : ∀ ns : List Int, precB p q ns = true ↔ ∀ j, j < ns.length → ns.getD j 0 = q → ((ns.take j).any fun x => x == p) = true
  | [] => by simp [precB]
  | a :: t => by
    have ih := prec_iff p q t
    by_cases haq : a = q
    · subst haq
      constructor
      · intro h; simp [precB] at h
      · intro h; have := h 0 (by simp) (by simp); simp at this
    · have e : precB p q (a :: t) = (precB p q t || (!(!(t.any fun x => x == q)) && (a == p))) := by
        have hb : (a == q) = false := by simpa using haq
        simp only [precB, List.any_cons, hb, Bool.false_or, List.idxOf_cons, cond_false, List.take_succ_cons]
        cases (t.any fun x => x == q) <;> cases (a == p) <;> simp
      rw [e]
      by_cases hap : a = p
      · constructor
        · intro _ j hj hq
          cases j with
          | zero => exact absurd (by simpa using hq) haq
          | succ j => simp [hap]
        · intro _
          cases hq : (t.any fun x => x == q)
          · simp [precB, hq]
          · simp [hap]
      · have hb : (a == p) = false := by simpa using hap
        rw [hb, Bool.and_false, Bool.or_false, ih]
        constructor
        · intro h j hj hq
          cases j with
          | zero => exact absurd (by simpa using hq) haq
          | succ j => simpa [hap, hb] using h j (by simpa using hj) (by simpa using hq)
        · intro h j hj hq
          have := h (j + 1) (by simpa using hj) (by simpa using hq)
          simpa [hap] using this
theorem prec_fold {p q : Int} {ns : List Int} {G : List Int → Int → List Int}
    (h1 : ∀ l k, (ns.take k.toNat).length = k.toNat → ns.getD k.toNat 0 = q → ((ns.take k.toNat).any fun x => x == p) = false → G l k ≠ [])
    (h2 : ∀ l k, (ns.take k.toNat).length = k.toNat → ns.getD k.toNat 0 = q → ((ns.take k.toNat).any fun x => x == p) = true → G l k = l)
    (h3 : ∀ l k, ns.getD k.toNat 0 ≠ q → G l k = l) :
    decide (List.foldl G [] (rangeKs 0 ((ns.length : Int) - 0).toNat) = []) = precB p q ns := by
  have hl : ∀ k ∈ rangeKs 0 ((ns.length : Int) - 0).toNat, (ns.take k.toNat).length = k.toNat := fun k hk => by
    have := mem_rangeKs hk
    rw [List.length_take]
    omega
  have e : (precB p q ns) = decide (precB p q ns = true) := by simp
  rw [e]
  refine decide_eq_decide.mpr ?_
  rw [fold_nil (P := fun k' => ns.getD k'.toNat 0 = q ∧ ((ns.take k'.toNat).any fun x => x == p) = false) _ (fun l k hk hP => h1 l k (hl k hk) hP.1 hP.2) (fun l k hk hP => ?_), prec_iff]
  · constructor
    · intro h j hj hq
      have hm : (j : Int) ∈ rangeKs 0 ((ns.length : Int) - 0).toNat := List.mem_map.mpr ⟨j, by simp only [List.mem_range]; omega, by omega⟩
      have := h.2 _ hm
      have e1 : (j : Int).toNat = j := by omega
      rw [e1] at this
      cases hb : ((ns.take j).any fun x => x == p)
      · exact absurd ⟨hq, hb⟩ this
      · rfl
    · intro h
      refine ⟨rfl, fun k hk hP => ?_⟩
      have hm := mem_rangeKs hk
      have := h k.toNat (by omega) hP.1
      rw [hP.2] at this
      exact absurd this (by decide)
  · by_cases hq : ns.getD k.toNat 0 = q
    · cases hb : ((ns.take k.toNat).any fun x => x == p)
      · exact absurd ⟨hq, hb⟩ hP
      · exact h2 l k (hl k hk) hq hb
    · exact h3 l k hq
theorem prec_chk0 {p q : Int} {ns : List Int} (h : (ns.any fun x => x == q) = false) : (!(ns.any fun x => x == q)) = precB p q ns := by
  simp [precB, h]
theorem prec_chk1 {p q : Int} {ns : List Int} (h : (ns.any fun x => x == q) = true) : ((ns.take ((ns.idxOf q : Nat) : Int).toNat).any fun x => x == p) = precB p q ns := by
  simp [precB, h]
end
section
noncomputable def lexNm : Bool → Str
  | true => Str.ofString "lex_lt"
  | false => Str.ofString "lex_le"
theorem ord0_tells {w : World} {mean : ExcName → Option Value} {mg mb : Str → Option Value} {dp un : Nat} {gd : Option (List Code)} {cn : Str} {cs : Scope} {a : Addr} {ccd : Value} {cl : List (Str × Addr)} {outer : List Env} {A₀ : Around} {base h₀ : Heap} {L : Addr} {m : Str → Option Value} {s : Shared} {Q E : Value → Shared → Prop}
    {T x : Addr} {rest : List (Addr × Obj)} {tks : Tok} {vs : List Value} {rs : List Int}
    (B : Below A₀ base outer h₀) (F : Fr h₀ L s.heap m) (X : (hd.heap_39 w.params).In h₀) (N : News h₀ L s.heap ((T, tupO [.str (Str.ofString "increasing") tks, .ref x]) :: (x, tupO vs) :: rest)) (Tp : Top hd.view_39 (looseW hd.view_39 []) mean mg mb h₀) (hk : cs.kind = .function)
    (hI : IntsAre vs rs) (hl : rs.length ≤ 3) (hdp : dp + 5 < recursionLimit) (hun : un + 40 < cLine)
    (hret : ∀ r dx t1 t2 t3 t4 t5 h' tk', News h₀ L h' ((r, instObj 159 dx) :: (dx, dictOf [({ hash := PyData.keyHash w.params (Str.ofString "number"), key := .str (Str.ofString "number") t1, val := .int (-1) t2 } : DictEntry), ({ hash := PyData.keyHash w.params (Str.ofString "scope"), key := .str (Str.ofString "scope") t3, val := .ref x } : DictEntry), ({ hash := PyData.keyHash w.params (Str.ofString "strength"), key := .str (Str.ofString "strength") t4, val := .str (Str.ofString "bounds") t5 } : DictEntry)] 3) :: (T, tupO [.str (Str.ofString "increasing") tks, .ref x]) :: (x, tupO vs) :: rest) → Fr h₀ L h' m → (@LT.lt Nat _ dx r ∧ @LT.lt Nat _ T dx ∧ @LT.lt Nat _ x dx ∧ AllLt dx rest) → Q (.ref r) { s with heap := h', toks := tk' }) :
    wpAny (model PySem.Challenge.rw_nz0011_01.row.prog w) (ktrTop dp un gd cn cs L a ccd cl outer) (call (.ref 224) [.ref T]) Q E s := by
  w_top off
  k_with_none
  k_with "ne" => (refine neN ?_; (try dsimp only); (first | with_reducible assumption | (with_reducible refine Ne.symm ?_; assumption) | (repeat (with_reducible rename _ ∧ _ => wz; first | exact wz.1 | exact Ne.symm wz.1 | exact Nat.ne_of_lt wz.1 | exact Nat.ne_of_gt wz.1 | exact wz.1.1 | exact Ne.symm wz.1.1 | exact wz.1.2.1 | exact Ne.symm wz.1.2.1 | exact wz.1.2.2 | exact Ne.symm wz.1.2.2 | exact wz.2.1 | exact Ne.symm wz.2.1 | exact Nat.ne_of_lt wz.2.1 | exact Nat.ne_of_gt wz.2.1 | exact wz.2 | exact Ne.symm wz.2 | exact Nat.ne_of_lt wz.2 | exact Nat.ne_of_gt wz.2 | exact wz.2.1.1 | exact Ne.symm wz.2.1.1 | exact wz.2.1.2.1 | exact Ne.symm wz.2.1.2.1 | exact wz.2.1.2.2 | exact Ne.symm wz.2.1.2.2 | exact wz.2.2.1 | exact Ne.symm wz.2.2.1 | exact Nat.ne_of_lt wz.2.2.1 | exact Nat.ne_of_gt wz.2.2.1 | exact wz.2.2 | exact Ne.symm wz.2.2 | exact Nat.ne_of_lt wz.2.2 | exact Nat.ne_of_gt wz.2.2 | exact wz.2.2.1.1 | exact Ne.symm wz.2.2.1.1 | exact wz.2.2.1.2.1 | exact Ne.symm wz.2.2.1.2.1 | exact wz.2.2.1.2.2 | exact Ne.symm wz.2.2.1.2.2 | exact wz.2.2.2.1 | exact Ne.symm wz.2.2.2.1 | exact Nat.ne_of_lt wz.2.2.2.1 | exact Nat.ne_of_gt wz.2.2.2.1 | exact wz.2.2.2 | exact Ne.symm wz.2.2.2 | exact Nat.ne_of_lt wz.2.2.2 | exact Nat.ne_of_gt wz.2.2.2 | exact wz.2.2.2.1.1 | exact Ne.symm wz.2.2.2.1.1 | exact wz.2.2.2.1.2.1 | exact Ne.symm wz.2.2.2.1.2.1 | exact wz.2.2.2.1.2.2 | exact Ne.symm wz.2.2.2.1.2.2 | exact wz.2.2.2.2.1 | exact Ne.symm wz.2.2.2.2.1 | exact Nat.ne_of_lt wz.2.2.2.2.1 | exact Nat.ne_of_gt wz.2.2.2.2.1 | exact wz.2.2.2.2 | exact Ne.symm wz.2.2.2.2 | exact Nat.ne_of_lt wz.2.2.2.2 | exact Nat.ne_of_gt wz.2.2.2.2 | exact wz.2.2.2.2.1.1 | exact Ne.symm wz.2.2.2.2.1.1 | exact wz.2.2.2.2.1.2.1 | exact Ne.symm wz.2.2.2.2.1.2.1 | exact wz.2.2.2.2.1.2.2 | exact Ne.symm wz.2.2.2.2.1.2.2 | exact wz.2.2.2.2.2.1 | exact Ne.symm wz.2.2.2.2.2.1 | exact Nat.ne_of_lt wz.2.2.2.2.2.1 | exact Nat.ne_of_gt wz.2.2.2.2.2.1 | exact wz.2.2.2.2.2 | exact Ne.symm wz.2.2.2.2.2 | exact Nat.ne_of_lt wz.2.2.2.2.2 | exact Nat.ne_of_gt wz.2.2.2.2.2 | exact wz.2.2.2.2.2.1.1 | exact Ne.symm wz.2.2.2.2.2.1.1 | exact wz.2.2.2.2.2.1.2.1 | exact Ne.symm wz.2.2.2.2.2.1.2.1 | exact wz.2.2.2.2.2.1.2.2 | exact Ne.symm wz.2.2.2.2.2.1.2.2 | exact wz.2.2.2.2.2.2.1 | exact Ne.symm wz.2.2.2.2.2.2.1 | exact Nat.ne_of_lt wz.2.2.2.2.2.2.1 | exact Nat.ne_of_gt wz.2.2.2.2.2.2.1 | exact wz.2.2.2.2.2.2 | exact Ne.symm wz.2.2.2.2.2.2 | exact Nat.ne_of_lt wz.2.2.2.2.2.2 | exact Nat.ne_of_gt wz.2.2.2.2.2.2 | exact wz.2.2.2.2.2.2.1.1 | exact Ne.symm wz.2.2.2.2.2.2.1.1 | exact wz.2.2.2.2.2.2.1.2.1 | exact Ne.symm wz.2.2.2.2.2.2.1.2.1 | exact wz.2.2.2.2.2.2.1.2.2 | exact Ne.symm wz.2.2.2.2.2.2.1.2.2 | exact wz.2.2.2.2.2.2.2.1 | exact Ne.symm wz.2.2.2.2.2.2.2.1 | exact Nat.ne_of_lt wz.2.2.2.2.2.2.2.1 | exact Nat.ne_of_gt wz.2.2.2.2.2.2.2.1 | exact wz.2.2.2.2.2.2.2 | exact Ne.symm wz.2.2.2.2.2.2.2 | exact Nat.ne_of_lt wz.2.2.2.2.2.2.2 | exact Nat.ne_of_gt wz.2.2.2.2.2.2.2 | exact wz.2.2.2.2.2.2.2.1.1 | exact Ne.symm wz.2.2.2.2.2.2.2.1.1 | exact wz.2.2.2.2.2.2.2.1.2.1 | exact Ne.symm wz.2.2.2.2.2.2.2.1.2.1 | exact wz.2.2.2.2.2.2.2.1.2.2 | exact Ne.symm wz.2.2.2.2.2.2.2.1.2.2 | exact wz.2.2.2.2.2.2.2.2.1 | exact Ne.symm wz.2.2.2.2.2.2.2.2.1 | exact Nat.ne_of_lt wz.2.2.2.2.2.2.2.2.1 | exact Nat.ne_of_gt wz.2.2.2.2.2.2.2.2.1 | exact wz.2.2.2.2.2.2.2.2 | exact Ne.symm wz.2.2.2.2.2.2.2.2 | exact Nat.ne_of_lt wz.2.2.2.2.2.2.2.2 | exact Nat.ne_of_gt wz.2.2.2.2.2.2.2.2 | exact wz.2.2.2.2.2.2.2.2.1.1 | exact Ne.symm wz.2.2.2.2.2.2.2.2.1.1 | exact wz.2.2.2.2.2.2.2.2.1.2.1 | exact Ne.symm wz.2.2.2.2.2.2.2.2.1.2.1 | exact wz.2.2.2.2.2.2.2.2.1.2.2 | exact Ne.symm wz.2.2.2.2.2.2.2.2.1.2.2 | exact wz.2.2.2.2.2.2.2.2.2.1 | exact Ne.symm wz.2.2.2.2.2.2.2.2.2.1 | exact Nat.ne_of_lt wz.2.2.2.2.2.2.2.2.2.1 | exact Nat.ne_of_gt wz.2.2.2.2.2.2.2.2.2.1 | exact wz.2.2.2.2.2.2.2.2.2 | exact Ne.symm wz.2.2.2.2.2.2.2.2.2 | exact Nat.ne_of_lt wz.2.2.2.2.2.2.2.2.2 | exact Nat.ne_of_gt wz.2.2.2.2.2.2.2.2.2 | exact wz.2.2.2.2.2.2.2.2.2.1.1 | exact Ne.symm wz.2.2.2.2.2.2.2.2.2.1.1 | exact wz.2.2.2.2.2.2.2.2.2.1.2.1 | exact Ne.symm wz.2.2.2.2.2.2.2.2.2.1.2.1 | exact wz.2.2.2.2.2.2.2.2.2.1.2.2 | exact Ne.symm wz.2.2.2.2.2.2.2.2.2.1.2.2 | exact wz.2.2.2.2.2.2.2.2.2.2.1 | exact Ne.symm wz.2.2.2.2.2.2.2.2.2.2.1 | exact Nat.ne_of_lt wz.2.2.2.2.2.2.2.2.2.2.1 | exact Nat.ne_of_gt wz.2.2.2.2.2.2.2.2.2.2.1 | exact wz.2.2.2.2.2.2.2.2.2.2 | exact Ne.symm wz.2.2.2.2.2.2.2.2.2.2 | exact Nat.ne_of_lt wz.2.2.2.2.2.2.2.2.2.2 | exact Nat.ne_of_gt wz.2.2.2.2.2.2.2.2.2.2 | exact wz.2.2.2.2.2.2.2.2.2.2.1.1 | exact Ne.symm wz.2.2.2.2.2.2.2.2.2.2.1.1 | exact wz.2.2.2.2.2.2.2.2.2.2.1.2.1 | exact Ne.symm wz.2.2.2.2.2.2.2.2.2.2.1.2.1 | exact wz.2.2.2.2.2.2.2.2.2.2.1.2.2 | exact Ne.symm wz.2.2.2.2.2.2.2.2.2.2.1.2.2 | exact wz.2.2.2.2.2.2.2.2.2.2.2.1 | exact Ne.symm wz.2.2.2.2.2.2.2.2.2.2.2.1 | exact Nat.ne_of_lt wz.2.2.2.2.2.2.2.2.2.2.2.1 | exact Nat.ne_of_gt wz.2.2.2.2.2.2.2.2.2.2.2.1 | exact wz.2.2.2.2.2.2.2.2.2.2.2 | exact Ne.symm wz.2.2.2.2.2.2.2.2.2.2.2 | exact Nat.ne_of_lt wz.2.2.2.2.2.2.2.2.2.2.2 | exact Nat.ne_of_gt wz.2.2.2.2.2.2.2.2.2.2.2 | exact wz.2.2.2.2.2.2.2.2.2.2.2.1.1 | exact Ne.symm wz.2.2.2.2.2.2.2.2.2.2.2.1.1 | exact wz.2.2.2.2.2.2.2.2.2.2.2.1.2.1 | exact Ne.symm wz.2.2.2.2.2.2.2.2.2.2.2.1.2.1 | exact wz.2.2.2.2.2.2.2.2.2.2.2.1.2.2 | exact Ne.symm wz.2.2.2.2.2.2.2.2.2.2.2.1.2.2 | exact wz.2.2.2.2.2.2.2.2.2.2.2.2.1 | exact Ne.symm wz.2.2.2.2.2.2.2.2.2.2.2.2.1 | exact Nat.ne_of_lt wz.2.2.2.2.2.2.2.2.2.2.2.2.1 | exact Nat.ne_of_gt wz.2.2.2.2.2.2.2.2.2.2.2.2.1 | exact wz.2.2.2.2.2.2.2.2.2.2.2.2 | exact Ne.symm wz.2.2.2.2.2.2.2.2.2.2.2.2 | exact Nat.ne_of_lt wz.2.2.2.2.2.2.2.2.2.2.2.2 | exact Nat.ne_of_gt wz.2.2.2.2.2.2.2.2.2.2.2.2 | exact wz.2.2.2.2.2.2.2.2.2.2.2.2.1.1 | exact Ne.symm wz.2.2.2.2.2.2.2.2.2.2.2.2.1.1 | exact wz.2.2.2.2.2.2.2.2.2.2.2.2.1.2.1 | exact Ne.symm wz.2.2.2.2.2.2.2.2.2.2.2.2.1.2.1 | exact wz.2.2.2.2.2.2.2.2.2.2.2.2.1.2.2 | exact Ne.symm wz.2.2.2.2.2.2.2.2.2.2.2.2.1.2.2 | exact wz.2.2.2.2.2.2.2.2.2.2.2.2.2.1 | exact Ne.symm wz.2.2.2.2.2.2.2.2.2.2.2.2.2.1 | exact Nat.ne_of_lt wz.2.2.2.2.2.2.2.2.2.2.2.2.2.1 | exact Nat.ne_of_gt wz.2.2.2.2.2.2.2.2.2.2.2.2.2.1 | exact wz.2.2.2.2.2.2.2.2.2.2.2.2.2 | exact Ne.symm wz.2.2.2.2.2.2.2.2.2.2.2.2.2 | exact Nat.ne_of_lt wz.2.2.2.2.2.2.2.2.2.2.2.2.2 | exact Nat.ne_of_gt wz.2.2.2.2.2.2.2.2.2.2.2.2.2 | exact wz.2.2.2.2.2.2.2.2.2.2.2.2.2.1.1 | exact Ne.symm wz.2.2.2.2.2.2.2.2.2.2.2.2.2.1.1 | exact wz.2.2.2.2.2.2.2.2.2.2.2.2.2.1.2.1 | exact Ne.symm wz.2.2.2.2.2.2.2.2.2.2.2.2.2.1.2.1 | exact wz.2.2.2.2.2.2.2.2.2.2.2.2.2.1.2.2 | exact Ne.symm wz.2.2.2.2.2.2.2.2.2.2.2.2.2.1.2.2 | clear wz))); done)
  k_with "om" => ((fail_if_success (with_reducible rename OmMark => x9)); first | decide | exact le_lit (by with_reducible assumption) rfl | exact room1 (by with_reducible assumption) rfl | exact room2 (by with_reducible assumption) rfl | exact room3 (by with_reducible assumption) rfl | ((have m9 : OmMark := OmMark.mk); (first | (with_reducible rename _ ∧ _ => z9; clear z9) | (with_reducible rename @Ne _ _ _ => z9; clear z9)); (repeat (with_reducible rename _ ∧ _ => z9; clear z9)); (repeat (with_reducible rename @Ne _ _ _ => z9; clear z9)); omega))
  k_with "wpAt" => (ks_step "execs cons"; k_dflt (refine ks_wpAt_execs_cons ?_))
  k_with "wpAt" => (ks_step "exec Expr"; k_dflt (refine ks_wpAt_Expr_any ?_))
  k_with "wpAt" => (ks_step "eval Call"; k_dflt (refine ks_wpAt_MethodCall ?_))
  k_with "call type:tuple" => (k_here; (with_reducible show wpAny _ _ (call (Value.type "tuple") [Value.ref _]) _ _ _); k_dflt (refine' call_tuple_tup (tupO_tup ?w3wN ?w3wm) ?_; (case w3wN => k_asm); (case w3wm => (repeat (first | exact List.Mem.head _ | refine List.Mem.tail _ ?_)))))
  revert X
  k_fill
  intro X
  refine wpAny_call ?_
  k_dflt cell_enter
  k_steps
  rename_i kN _ _
  exact hret _ _ _ _ _ _ _ _ _ (kst_newsOf kN (by kcf_all)) (by assumption) ⟨by omega, by omega, by omega, by simp_all only⟩
theorem ord1_tells {w : World} {mean : ExcName → Option Value} {mg mb : Str → Option Value} {dp un : Nat} {gd : Option (List Code)} {cn : Str} {cs : Scope} {a : Addr} {ccd : Value} {cl : List (Str × Addr)} {outer : List Env} {A₀ : Around} {base h₀ : Heap} {L : Addr} {m : Str → Option Value} {s : Shared} {Q E : Value → Shared → Prop}
    {T x : Addr} {rest : List (Addr × Obj)} {tks ta tb : Tok} {p q : Int} {vs : List Value} {rs : List Int}
    (B : Below A₀ base outer h₀) (F : Fr h₀ L s.heap m) (X : (hd.heap_39 w.params).In h₀) (N : News h₀ L s.heap ((T, tupO [.str (Str.ofString "precede") tks, .int p ta, .int q tb, .ref x]) :: (x, tupO vs) :: rest)) (Tp : Top hd.view_39 (looseW hd.view_39 []) mean mg mb h₀) (hk : cs.kind = .function)
    (hI : IntsAre vs rs) (hl : rs.length ≤ 3) (hdp : dp + 5 < recursionLimit) (hun : un + 40 < cLine)
    (hret : ∀ r dx t1 t2 t3 t4 t5 t6 t7 h' tk', News h₀ L h' ((r, instObj 215 dx) :: (dx, dictOf [({ hash := PyData.keyHash w.params (Str.ofString "number"), key := .str (Str.ofString "number") t1, val := .int (-1) t2 } : DictEntry), ({ hash := PyData.keyHash w.params (Str.ofString "scope"), key := .str (Str.ofString "scope") t3, val := .ref x } : DictEntry), ({ hash := PyData.keyHash w.params (Str.ofString "strength"), key := .str (Str.ofString "strength") t4, val := .str (Str.ofString "values") t5 } : DictEntry), ({ hash := PyData.keyHash w.params (Str.ofString "s"), key := .str (Str.ofString "s") t6, val := .int p ta } : DictEntry), ({ hash := PyData.keyHash w.params (Str.ofString "t"), key := .str (Str.ofString "t") t7, val := .int q tb } : DictEntry)] 5) :: (T, tupO [.str (Str.ofString "precede") tks, .int p ta, .int q tb, .ref x]) :: (x, tupO vs) :: rest) → Fr h₀ L h' m → (@LT.lt Nat _ dx r ∧ @LT.lt Nat _ T dx ∧ @LT.lt Nat _ x dx ∧ AllLt dx rest) → Q (.ref r) { s with heap := h', toks := tk' }) :
    wpAny (model PySem.Challenge.rw_nz0011_01.row.prog w) (ktrTop dp un gd cn cs L a ccd cl outer) (call (.ref 224) [.ref T]) Q E s := by
  w_top off
  k_with_none
  k_with "ne" => (refine neN ?_; (try dsimp only); (first | with_reducible assumption | (with_reducible refine Ne.symm ?_; assumption) | (repeat (with_reducible rename _ ∧ _ => wz; first | exact wz.1 | exact Ne.symm wz.1 | exact Nat.ne_of_lt wz.1 | exact Nat.ne_of_gt wz.1 | exact wz.1.1 | exact Ne.symm wz.1.1 | exact wz.1.2.1 | exact Ne.symm wz.1.2.1 | exact wz.1.2.2 | exact Ne.symm wz.1.2.2 | exact wz.2.1 | exact Ne.symm wz.2.1 | exact Nat.ne_of_lt wz.2.1 | exact Nat.ne_of_gt wz.2.1 | exact wz.2 | exact Ne.symm wz.2 | exact Nat.ne_of_lt wz.2 | exact Nat.ne_of_gt wz.2 | exact wz.2.1.1 | exact Ne.symm wz.2.1.1 | exact wz.2.1.2.1 | exact Ne.symm wz.2.1.2.1 | exact wz.2.1.2.2 | exact Ne.symm wz.2.1.2.2 | exact wz.2.2.1 | exact Ne.symm wz.2.2.1 | exact Nat.ne_of_lt wz.2.2.1 | exact Nat.ne_of_gt wz.2.2.1 | exact wz.2.2 | exact Ne.symm wz.2.2 | exact Nat.ne_of_lt wz.2.2 | exact Nat.ne_of_gt wz.2.2 | exact wz.2.2.1.1 | exact Ne.symm wz.2.2.1.1 | exact wz.2.2.1.2.1 | exact Ne.symm wz.2.2.1.2.1 | exact wz.2.2.1.2.2 | exact Ne.symm wz.2.2.1.2.2 | exact wz.2.2.2.1 | exact Ne.symm wz.2.2.2.1 | exact Nat.ne_of_lt wz.2.2.2.1 | exact Nat.ne_of_gt wz.2.2.2.1 | exact wz.2.2.2 | exact Ne.symm wz.2.2.2 | exact Nat.ne_of_lt wz.2.2.2 | exact Nat.ne_of_gt wz.2.2.2 | exact wz.2.2.2.1.1 | exact Ne.symm wz.2.2.2.1.1 | exact wz.2.2.2.1.2.1 | exact Ne.symm wz.2.2.2.1.2.1 | exact wz.2.2.2.1.2.2 | exact Ne.symm wz.2.2.2.1.2.2 | exact wz.2.2.2.2.1 | exact Ne.symm wz.2.2.2.2.1 | exact Nat.ne_of_lt wz.2.2.2.2.1 | exact Nat.ne_of_gt wz.2.2.2.2.1 | exact wz.2.2.2.2 | exact Ne.symm wz.2.2.2.2 | exact Nat.ne_of_lt wz.2.2.2.2 | exact Nat.ne_of_gt wz.2.2.2.2 | exact wz.2.2.2.2.1.1 | exact Ne.symm wz.2.2.2.2.1.1 | exact wz.2.2.2.2.1.2.1 | exact Ne.symm wz.2.2.2.2.1.2.1 | exact wz.2.2.2.2.1.2.2 | exact Ne.symm wz.2.2.2.2.1.2.2 | exact wz.2.2.2.2.2.1 | exact Ne.symm wz.2.2.2.2.2.1 | exact Nat.ne_of_lt wz.2.2.2.2.2.1 | exact Nat.ne_of_gt wz.2.2.2.2.2.1 | exact wz.2.2.2.2.2 | exact Ne.symm wz.2.2.2.2.2 | exact Nat.ne_of_lt wz.2.2.2.2.2 | exact Nat.ne_of_gt wz.2.2.2.2.2 | exact wz.2.2.2.2.2.1.1 | exact Ne.symm wz.2.2.2.2.2.1.1 | exact wz.2.2.2.2.2.1.2.1 | exact Ne.symm wz.2.2.2.2.2.1.2.1 | exact wz.2.2.2.2.2.1.2.2 | exact Ne.symm wz.2.2.2.2.2.1.2.2 | exact wz.2.2.2.2.2.2.1 | exact Ne.symm wz.2.2.2.2.2.2.1 | exact Nat.ne_of_lt wz.2.2.2.2.2.2.1 | exact Nat.ne_of_gt wz.2.2.2.2.2.2.1 | exact wz.2.2.2.2.2.2 | exact Ne.symm wz.2.2.2.2.2.2 | exact Nat.ne_of_lt wz.2.2.2.2.2.2 | exact Nat.ne_of_gt wz.2.2.2.2.2.2 | exact wz.2.2.2.2.2.2.1.1 | exact Ne.symm wz.2.2.2.2.2.2.1.1 | exact wz.2.2.2.2.2.2.1.2.1 | exact Ne.symm wz.2.2.2.2.2.2.1.2.1 | exact wz.2.2.2.2.2.2.1.2.2 | exact Ne.symm wz.2.2.2.2.2.2.1.2.2 | exact wz.2.2.2.2.2.2.2.1 | exact Ne.symm wz.2.2.2.2.2.2.2.1 | exact Nat.ne_of_lt wz.2.2.2.2.2.2.2.1 | exact Nat.ne_of_gt wz.2.2.2.2.2.2.2.1 | exact wz.2.2.2.2.2.2.2 | exact Ne.symm wz.2.2.2.2.2.2.2 | exact Nat.ne_of_lt wz.2.2.2.2.2.2.2 | exact Nat.ne_of_gt wz.2.2.2.2.2.2.2 | exact wz.2.2.2.2.2.2.2.1.1 | exact Ne.symm wz.2.2.2.2.2.2.2.1.1 | exact wz.2.2.2.2.2.2.2.1.2.1 | exact Ne.symm wz.2.2.2.2.2.2.2.1.2.1 | exact wz.2.2.2.2.2.2.2.1.2.2 | exact Ne.symm wz.2.2.2.2.2.2.2.1.2.2 | exact wz.2.2.2.2.2.2.2.2.1 | exact Ne.symm wz.2.2.2.2.2.2.2.2.1 | exact Nat.ne_of_lt wz.2.2.2.2.2.2.2.2.1 | exact Nat.ne_of_gt wz.2.2.2.2.2.2.2.2.1 | exact wz.2.2.2.2.2.2.2.2 | exact Ne.symm wz.2.2.2.2.2.2.2.2 | exact Nat.ne_of_lt wz.2.2.2.2.2.2.2.2 | exact Nat.ne_of_gt wz.2.2.2.2.2.2.2.2 | exact wz.2.2.2.2.2.2.2.2.1.1 | exact Ne.symm wz.2.2.2.2.2.2.2.2.1.1 | exact wz.2.2.2.2.2.2.2.2.1.2.1 | exact Ne.symm wz.2.2.2.2.2.2.2.2.1.2.1 | exact wz.2.2.2.2.2.2.2.2.1.2.2 | exact Ne.symm wz.2.2.2.2.2.2.2.2.1.2.2 | exact wz.2.2.2.2.2.2.2.2.2.1 | exact Ne.symm wz.2.2.2.2.2.2.2.2.2.1 | exact Nat.ne_of_lt wz.2.2.2.2.2.2.2.2.2.1 | exact Nat.ne_of_gt wz.2.2.2.2.2.2.2.2.2.1 | exact wz.2.2.2.2.2.2.2.2.2 | exact Ne.symm wz.2.2.2.2.2.2.2.2.2 | exact Nat.ne_of_lt wz.2.2.2.2.2.2.2.2.2 | exact Nat.ne_of_gt wz.2.2.2.2.2.2.2.2.2 | exact wz.2.2.2.2.2.2.2.2.2.1.1 | exact Ne.symm wz.2.2.2.2.2.2.2.2.2.1.1 | exact wz.2.2.2.2.2.2.2.2.2.1.2.1 | exact Ne.symm wz.2.2.2.2.2.2.2.2.2.1.2.1 | exact wz.2.2.2.2.2.2.2.2.2.1.2.2 | exact Ne.symm wz.2.2.2.2.2.2.2.2.2.1.2.2 | exact wz.2.2.2.2.2.2.2.2.2.2.1 | exact Ne.symm wz.2.2.2.2.2.2.2.2.2.2.1 | exact Nat.ne_of_lt wz.2.2.2.2.2.2.2.2.2.2.1 | exact Nat.ne_of_gt wz.2.2.2.2.2.2.2.2.2.2.1 | exact wz.2.2.2.2.2.2.2.2.2.2 | exact Ne.symm wz.2.2.2.2.2.2.2.2.2.2 | exact Nat.ne_of_lt wz.2.2.2.2.2.2.2.2.2.2 | exact Nat.ne_of_gt wz.2.2.2.2.2.2.2.2.2.2 | exact wz.2.2.2.2.2.2.2.2.2.2.1.1 | exact Ne.symm wz.2.2.2.2.2.2.2.2.2.2.1.1 | exact wz.2.2.2.2.2.2.2.2.2.2.1.2.1 | exact Ne.symm wz.2.2.2.2.2.2.2.2.2.2.1.2.1 | exact wz.2.2.2.2.2.2.2.2.2.2.1.2.2 | exact Ne.symm wz.2.2.2.2.2.2.2.2.2.2.1.2.2 | exact wz.2.2.2.2.2.2.2.2.2.2.2.1 | exact Ne.symm wz.2.2.2.2.2.2.2.2.2.2.2.1 | exact Nat.ne_of_lt wz.2.2.2.2.2.2.2.2.2.2.2.1 | exact Nat.ne_of_gt wz.2.2.2.2.2.2.2.2.2.2.2.1 | exact wz.2.2.2.2.2.2.2.2.2.2.2 | exact Ne.symm wz.2.2.2.2.2.2.2.2.2.2.2 | exact Nat.ne_of_lt wz.2.2.2.2.2.2.2.2.2.2.2 | exact Nat.ne_of_gt wz.2.2.2.2.2.2.2.2.2.2.2 | exact wz.2.2.2.2.2.2.2.2.2.2.2.1.1 | exact Ne.symm wz.2.2.2.2.2.2.2.2.2.2.2.1.1 | exact wz.2.2.2.2.2.2.2.2.2.2.2.1.2.1 | exact Ne.symm wz.2.2.2.2.2.2.2.2.2.2.2.1.2.1 | exact wz.2.2.2.2.2.2.2.2.2.2.2.1.2.2 | exact Ne.symm wz.2.2.2.2.2.2.2.2.2.2.2.1.2.2 | exact wz.2.2.2.2.2.2.2.2.2.2.2.2.1 | exact Ne.symm wz.2.2.2.2.2.2.2.2.2.2.2.2.1 | exact Nat.ne_of_lt wz.2.2.2.2.2.2.2.2.2.2.2.2.1 | exact Nat.ne_of_gt wz.2.2.2.2.2.2.2.2.2.2.2.2.1 | exact wz.2.2.2.2.2.2.2.2.2.2.2.2 | exact Ne.symm wz.2.2.2.2.2.2.2.2.2.2.2.2 | exact Nat.ne_of_lt wz.2.2.2.2.2.2.2.2.2.2.2.2 | exact Nat.ne_of_gt wz.2.2.2.2.2.2.2.2.2.2.2.2 | exact wz.2.2.2.2.2.2.2.2.2.2.2.2.1.1 | exact Ne.symm wz.2.2.2.2.2.2.2.2.2.2.2.2.1.1 | exact wz.2.2.2.2.2.2.2.2.2.2.2.2.1.2.1 | exact Ne.symm wz.2.2.2.2.2.2.2.2.2.2.2.2.1.2.1 | exact wz.2.2.2.2.2.2.2.2.2.2.2.2.1.2.2 | exact Ne.symm wz.2.2.2.2.2.2.2.2.2.2.2.2.1.2.2 | exact wz.2.2.2.2.2.2.2.2.2.2.2.2.2.1 | exact Ne.symm wz.2.2.2.2.2.2.2.2.2.2.2.2.2.1 | exact Nat.ne_of_lt wz.2.2.2.2.2.2.2.2.2.2.2.2.2.1 | exact Nat.ne_of_gt wz.2.2.2.2.2.2.2.2.2.2.2.2.2.1 | exact wz.2.2.2.2.2.2.2.2.2.2.2.2.2 | exact Ne.symm wz.2.2.2.2.2.2.2.2.2.2.2.2.2 | exact Nat.ne_of_lt wz.2.2.2.2.2.2.2.2.2.2.2.2.2 | exact Nat.ne_of_gt wz.2.2.2.2.2.2.2.2.2.2.2.2.2 | exact wz.2.2.2.2.2.2.2.2.2.2.2.2.2.1.1 | exact Ne.symm wz.2.2.2.2.2.2.2.2.2.2.2.2.2.1.1 | exact wz.2.2.2.2.2.2.2.2.2.2.2.2.2.1.2.1 | exact Ne.symm wz.2.2.2.2.2.2.2.2.2.2.2.2.2.1.2.1 | exact wz.2.2.2.2.2.2.2.2.2.2.2.2.2.1.2.2 | exact Ne.symm wz.2.2.2.2.2.2.2.2.2.2.2.2.2.1.2.2 | clear wz))); done)
  k_with "om" => ((fail_if_success (with_reducible rename OmMark => x9)); first | decide | exact le_lit (by with_reducible assumption) rfl | exact room1 (by with_reducible assumption) rfl | exact room2 (by with_reducible assumption) rfl | exact room3 (by with_reducible assumption) rfl | ((have m9 : OmMark := OmMark.mk); (first | (with_reducible rename _ ∧ _ => z9; clear z9) | (with_reducible rename @Ne _ _ _ => z9; clear z9)); (repeat (with_reducible rename _ ∧ _ => z9; clear z9)); (repeat (with_reducible rename @Ne _ _ _ => z9; clear z9)); omega))
  k_with "wpAt" => (ks_step "execs cons"; k_dflt (refine ks_wpAt_execs_cons ?_))
  k_with "wpAt" => (ks_step "exec Expr"; k_dflt (refine ks_wpAt_Expr_any ?_))
  k_with "wpAt" => (ks_step "eval Call"; k_dflt (refine ks_wpAt_MethodCall ?_))
  k_with "call type:tuple" => (k_here; (with_reducible show wpAny _ _ (call (Value.type "tuple") [Value.ref _]) _ _ _); k_dflt (refine' call_tuple_tup (tupO_tup ?w3wN ?w3wm) ?_; (case w3wN => k_asm); (case w3wm => (repeat (first | exact List.Mem.head _ | refine List.Mem.tail _ ?_)))))
  revert X
  k_fill
  intro X
  refine wpAny_call ?_
  k_dflt cell_enter
  k_steps
  rename_i kN _ _
  exact hret _ _ _ _ _ _ _ _ _ _ _ (kst_newsOf kN (by kcf_all)) (by assumption) ⟨by omega, by omega, by omega, by simp_all only⟩
theorem eq_nm0 {prog : Program} {w : World} {A : Around} {E : Value → Shared → Prop} {s : Shared} {Q : Value → Shared → Prop} {st : Bool} {t u : Tok} (h : Q (.bool false) s) : wpAny (model prog w) A (compareOp .Eq (.str (lexNm st) t) (.str (Str.ofString "increasing") u)) Q E s :=
  eq_str (by rw [show (lexNm st == Str.ofString "increasing") = false from by cases st <;> decide +kernel]; exact h)
theorem eq_nm1 {prog : Program} {w : World} {A : Around} {E : Value → Shared → Prop} {s : Shared} {Q : Value → Shared → Prop} {st : Bool} {t u : Tok} (h : Q (.bool false) s) : wpAny (model prog w) A (compareOp .Eq (.str (lexNm st) t) (.str (Str.ofString "precede") u)) Q E s :=
  eq_str (by rw [show (lexNm st == Str.ofString "precede") = false from by cases st <;> decide +kernel]; exact h)
theorem eq_nm2 {prog : Program} {w : World} {A : Around} {E : Value → Shared → Prop} {s : Shared} {Q : Value → Shared → Prop} {st : Bool} {t u : Tok} (h : Q (.bool st) s) : wpAny (model prog w) A (compareOp .Eq (.str (lexNm st) t) (.str (Str.ofString "lex_lt") u)) Q E s :=
  eq_str (by rw [show (lexNm st == Str.ofString "lex_lt") = st from by cases st <;> decide +kernel]; exact h)
theorem ord2_tells {w : World} {mean : ExcName → Option Value} {mg mb : Str → Option Value} {dp un : Nat} {gd : Option (List Code)} {cn : Str} {cs : Scope} {a : Addr} {ccd : Value} {cl : List (Str × Addr)} {outer : List Env} {A₀ : Around} {base h₀ : Heap} {L : Addr} {m : Str → Option Value} {s : Shared} {Q E : Value → Shared → Prop}
    {st : Bool} {T x : Addr} {rest : List (Addr × Obj)} {tks : Tok} {y : Addr} {us : List Value} {qs : List Int} {vs : List Value} {rs : List Int}
    (B : Below A₀ base outer h₀) (F : Fr h₀ L s.heap m) (X : (hd.heap_39 w.params).In h₀) (N : News h₀ L s.heap ((T, tupO [.str (lexNm st) tks, .ref x, .ref y]) :: (y, tupO us) :: (x, tupO vs) :: rest)) (Tp : Top hd.view_39 (looseW hd.view_39 []) mean mg mb h₀) (hk : cs.kind = .function)
    (hI : IntsAre vs rs) (hl : rs.length ≤ 3) (hJ : IntsAre us qs) (hl' : qs.length ≤ 3) (hdp : dp + 5 < recursionLimit) (hun : un + 40 < cLine)
    (hret : ∀ r dx z D sa t1 t2 t3 t4 t5 t6 t7 t8 t9 ta h' tk', News h₀ L h' ((z, tupO (vs ++ us)) :: (r, instObj 117 dx) :: (dx, dictOf [({ hash := PyData.keyHash w.params (Str.ofString "number"), key := .str (Str.ofString "number") t1, val := .int (-1) t2 } : DictEntry), ({ hash := PyData.keyHash w.params (Str.ofString "scope"), key := .str (Str.ofString "scope") t3, val := .ref z } : DictEntry), ({ hash := PyData.keyHash w.params (Str.ofString "strength"), key := .str (Str.ofString "strength") t4, val := .str (Str.ofString "values") t5 } : DictEntry), ({ hash := PyData.keyHash w.params (Str.ofString "pairs"), key := .str (Str.ofString "pairs") t6, val := .ref D } : DictEntry), ({ hash := PyData.keyHash w.params (Str.ofString "many"), key := .str (Str.ofString "many") t7, val := .int (rs.length : Nat) t8 } : DictEntry), ({ hash := PyData.keyHash w.params (Str.ofString "is_strict"), key := .str (Str.ofString "is_strict") t9, val := .bool st } : DictEntry), ({ hash := PyData.keyHash w.params (Str.ofString "stands_alike"), key := .str (Str.ofString "stands_alike") ta, val := .bool sa } : DictEntry)] 7) :: (T, tupO [.str (lexNm st) tks, .ref x, .ref y]) :: (y, tupO us) :: (x, tupO vs) :: rest) → Fr h₀ L h' m → @Ne Nat z dx → (@LT.lt Nat _ dx r ∧ @LT.lt Nat _ T dx ∧ @LT.lt Nat _ y dx ∧ @LT.lt Nat _ x dx ∧ AllLt dx rest) → Q (.ref r) { s with heap := h', toks := tk' }) :
    wpAny (model PySem.Challenge.rw_nz0011_01.row.prog w) (ktrTop dp un gd cn cs L a ccd cl outer) (call (.ref 224) [.ref T]) Q E s := by
  w_top off
  k_with_none
  k_with "ne" => (refine neN ?_; (try dsimp only); (first | with_reducible assumption | (with_reducible refine Ne.symm ?_; assumption) | (repeat (with_reducible rename _ ∧ _ => wz; first | exact wz.1 | exact Ne.symm wz.1 | exact Nat.ne_of_lt wz.1 | exact Nat.ne_of_gt wz.1 | exact wz.1.1 | exact Ne.symm wz.1.1 | exact wz.1.2.1 | exact Ne.symm wz.1.2.1 | exact wz.1.2.2 | exact Ne.symm wz.1.2.2 | exact wz.2.1 | exact Ne.symm wz.2.1 | exact Nat.ne_of_lt wz.2.1 | exact Nat.ne_of_gt wz.2.1 | exact wz.2 | exact Ne.symm wz.2 | exact Nat.ne_of_lt wz.2 | exact Nat.ne_of_gt wz.2 | exact wz.2.1.1 | exact Ne.symm wz.2.1.1 | exact wz.2.1.2.1 | exact Ne.symm wz.2.1.2.1 | exact wz.2.1.2.2 | exact Ne.symm wz.2.1.2.2 | exact wz.2.2.1 | exact Ne.symm wz.2.2.1 | exact Nat.ne_of_lt wz.2.2.1 | exact Nat.ne_of_gt wz.2.2.1 | exact wz.2.2 | exact Ne.symm wz.2.2 | exact Nat.ne_of_lt wz.2.2 | exact Nat.ne_of_gt wz.2.2 | exact wz.2.2.1.1 | exact Ne.symm wz.2.2.1.1 | exact wz.2.2.1.2.1 | exact Ne.symm wz.2.2.1.2.1 | exact wz.2.2.1.2.2 | exact Ne.symm wz.2.2.1.2.2 | exact wz.2.2.2.1 | exact Ne.symm wz.2.2.2.1 | exact Nat.ne_of_lt wz.2.2.2.1 | exact Nat.ne_of_gt wz.2.2.2.1 | exact wz.2.2.2 | exact Ne.symm wz.2.2.2 | exact Nat.ne_of_lt wz.2.2.2 | exact Nat.ne_of_gt wz.2.2.2 | exact wz.2.2.2.1.1 | exact Ne.symm wz.2.2.2.1.1 | exact wz.2.2.2.1.2.1 | exact Ne.symm wz.2.2.2.1.2.1 | exact wz.2.2.2.1.2.2 | exact Ne.symm wz.2.2.2.1.2.2 | exact wz.2.2.2.2.1 | exact Ne.symm wz.2.2.2.2.1 | exact Nat.ne_of_lt wz.2.2.2.2.1 | exact Nat.ne_of_gt wz.2.2.2.2.1 | exact wz.2.2.2.2 | exact Ne.symm wz.2.2.2.2 | exact Nat.ne_of_lt wz.2.2.2.2 | exact Nat.ne_of_gt wz.2.2.2.2 | exact wz.2.2.2.2.1.1 | exact Ne.symm wz.2.2.2.2.1.1 | exact wz.2.2.2.2.1.2.1 | exact Ne.symm wz.2.2.2.2.1.2.1 | exact wz.2.2.2.2.1.2.2 | exact Ne.symm wz.2.2.2.2.1.2.2 | exact wz.2.2.2.2.2.1 | exact Ne.symm wz.2.2.2.2.2.1 | exact Nat.ne_of_lt wz.2.2.2.2.2.1 | exact Nat.ne_of_gt wz.2.2.2.2.2.1 | exact wz.2.2.2.2.2 | exact Ne.symm wz.2.2.2.2.2 | exact Nat.ne_of_lt wz.2.2.2.2.2 | exact Nat.ne_of_gt wz.2.2.2.2.2 | exact wz.2.2.2.2.2.1.1 | exact Ne.symm wz.2.2.2.2.2.1.1 | exact wz.2.2.2.2.2.1.2.1 | exact Ne.symm wz.2.2.2.2.2.1.2.1 | exact wz.2.2.2.2.2.1.2.2 | exact Ne.symm wz.2.2.2.2.2.1.2.2 | exact wz.2.2.2.2.2.2.1 | exact Ne.symm wz.2.2.2.2.2.2.1 | exact Nat.ne_of_lt wz.2.2.2.2.2.2.1 | exact Nat.ne_of_gt wz.2.2.2.2.2.2.1 | exact wz.2.2.2.2.2.2 | exact Ne.symm wz.2.2.2.2.2.2 | exact Nat.ne_of_lt wz.2.2.2.2.2.2 | exact Nat.ne_of_gt wz.2.2.2.2.2.2 | exact wz.2.2.2.2.2.2.1.1 | exact Ne.symm wz.2.2.2.2.2.2.1.1 | exact wz.2.2.2.2.2.2.1.2.1 | exact Ne.symm wz.2.2.2.2.2.2.1.2.1 | exact wz.2.2.2.2.2.2.1.2.2 | exact Ne.symm wz.2.2.2.2.2.2.1.2.2 | exact wz.2.2.2.2.2.2.2.1 | exact Ne.symm wz.2.2.2.2.2.2.2.1 | exact Nat.ne_of_lt wz.2.2.2.2.2.2.2.1 | exact Nat.ne_of_gt wz.2.2.2.2.2.2.2.1 | exact wz.2.2.2.2.2.2.2 | exact Ne.symm wz.2.2.2.2.2.2.2 | exact Nat.ne_of_lt wz.2.2.2.2.2.2.2 | exact Nat.ne_of_gt wz.2.2.2.2.2.2.2 | exact wz.2.2.2.2.2.2.2.1.1 | exact Ne.symm wz.2.2.2.2.2.2.2.1.1 | exact wz.2.2.2.2.2.2.2.1.2.1 | exact Ne.symm wz.2.2.2.2.2.2.2.1.2.1 | exact wz.2.2.2.2.2.2.2.1.2.2 | exact Ne.symm wz.2.2.2.2.2.2.2.1.2.2 | exact wz.2.2.2.2.2.2.2.2.1 | exact Ne.symm wz.2.2.2.2.2.2.2.2.1 | exact Nat.ne_of_lt wz.2.2.2.2.2.2.2.2.1 | exact Nat.ne_of_gt wz.2.2.2.2.2.2.2.2.1 | exact wz.2.2.2.2.2.2.2.2 | exact Ne.symm wz.2.2.2.2.2.2.2.2 | exact Nat.ne_of_lt wz.2.2.2.2.2.2.2.2 | exact Nat.ne_of_gt wz.2.2.2.2.2.2.2.2 | exact wz.2.2.2.2.2.2.2.2.1.1 | exact Ne.symm wz.2.2.2.2.2.2.2.2.1.1 | exact wz.2.2.2.2.2.2.2.2.1.2.1 | exact Ne.symm wz.2.2.2.2.2.2.2.2.1.2.1 | exact wz.2.2.2.2.2.2.2.2.1.2.2 | exact Ne.symm wz.2.2.2.2.2.2.2.2.1.2.2 | exact wz.2.2.2.2.2.2.2.2.2.1 | exact Ne.symm wz.2.2.2.2.2.2.2.2.2.1 | exact Nat.ne_of_lt wz.2.2.2.2.2.2.2.2.2.1 | exact Nat.ne_of_gt wz.2.2.2.2.2.2.2.2.2.1 | exact wz.2.2.2.2.2.2.2.2.2 | exact Ne.symm wz.2.2.2.2.2.2.2.2.2 | exact Nat.ne_of_lt wz.2.2.2.2.2.2.2.2.2 | exact Nat.ne_of_gt wz.2.2.2.2.2.2.2.2.2 | exact wz.2.2.2.2.2.2.2.2.2.1.1 | exact Ne.symm wz.2.2.2.2.2.2.2.2.2.1.1 | exact wz.2.2.2.2.2.2.2.2.2.1.2.1 | exact Ne.symm wz.2.2.2.2.2.2.2.2.2.1.2.1 | exact wz.2.2.2.2.2.2.2.2.2.1.2.2 | exact Ne.symm wz.2.2.2.2.2.2.2.2.2.1.2.2 | exact wz.2.2.2.2.2.2.2.2.2.2.1 | exact Ne.symm wz.2.2.2.2.2.2.2.2.2.2.1 | exact Nat.ne_of_lt wz.2.2.2.2.2.2.2.2.2.2.1 | exact Nat.ne_of_gt wz.2.2.2.2.2.2.2.2.2.2.1 | exact wz.2.2.2.2.2.2.2.2.2.2 | exact Ne.symm wz.2.2.2.2.2.2.2.2.2.2 | exact Nat.ne_of_lt wz.2.2.2.2.2.2.2.2.2.2 | exact Nat.ne_of_gt wz.2.2.2.2.2.2.2.2.2.2 | exact wz.2.2.2.2.2.2.2.2.2.2.1.1 | exact Ne.symm wz.2.2.2.2.2.2.2.2.2.2.1.1 | exact wz.2.2.2.2.2.2.2.2.2.2.1.2.1 | exact Ne.symm wz.2.2.2.2.2.2.2.2.2.2.1.2.1 | exact wz.2.2.2.2.2.2.2.2.2.2.1.2.2 | exact Ne.symm wz.2.2.2.2.2.2.2.2.2.2.1.2.2 | exact wz.2.2.2.2.2.2.2.2.2.2.2.1 | exact Ne.symm wz.2.2.2.2.2.2.2.2.2.2.2.1 | exact Nat.ne_of_lt wz.2.2.2.2.2.2.2.2.2.2.2.1 | exact Nat.ne_of_gt wz.2.2.2.2.2.2.2.2.2.2.2.1 | exact wz.2.2.2.2.2.2.2.2.2.2.2 | exact Ne.symm wz.2.2.2.2.2.2.2.2.2.2.2 | exact Nat.ne_of_lt wz.2.2.2.2.2.2.2.2.2.2.2 | exact Nat.ne_of_gt wz.2.2.2.2.2.2.2.2.2.2.2 | exact wz.2.2.2.2.2.2.2.2.2.2.2.1.1 | exact Ne.symm wz.2.2.2.2.2.2.2.2.2.2.2.1.1 | exact wz.2.2.2.2.2.2.2.2.2.2.2.1.2.1 | exact Ne.symm wz.2.2.2.2.2.2.2.2.2.2.2.1.2.1 | exact wz.2.2.2.2.2.2.2.2.2.2.2.1.2.2 | exact Ne.symm wz.2.2.2.2.2.2.2.2.2.2.2.1.2.2 | exact wz.2.2.2.2.2.2.2.2.2.2.2.2.1 | exact Ne.symm wz.2.2.2.2.2.2.2.2.2.2.2.2.1 | exact Nat.ne_of_lt wz.2.2.2.2.2.2.2.2.2.2.2.2.1 | exact Nat.ne_of_gt wz.2.2.2.2.2.2.2.2.2.2.2.2.1 | exact wz.2.2.2.2.2.2.2.2.2.2.2.2 | exact Ne.symm wz.2.2.2.2.2.2.2.2.2.2.2.2 | exact Nat.ne_of_lt wz.2.2.2.2.2.2.2.2.2.2.2.2 | exact Nat.ne_of_gt wz.2.2.2.2.2.2.2.2.2.2.2.2 | exact wz.2.2.2.2.2.2.2.2.2.2.2.2.1.1 | exact Ne.symm wz.2.2.2.2.2.2.2.2.2.2.2.2.1.1 | exact wz.2.2.2.2.2.2.2.2.2.2.2.2.1.2.1 | exact Ne.symm wz.2.2.2.2.2.2.2.2.2.2.2.2.1.2.1 | exact wz.2.2.2.2.2.2.2.2.2.2.2.2.1.2.2 | exact Ne.symm wz.2.2.2.2.2.2.2.2.2.2.2.2.1.2.2 | exact wz.2.2.2.2.2.2.2.2.2.2.2.2.2.1 | exact Ne.symm wz.2.2.2.2.2.2.2.2.2.2.2.2.2.1 | exact Nat.ne_of_lt wz.2.2.2.2.2.2.2.2.2.2.2.2.2.1 | exact Nat.ne_of_gt wz.2.2.2.2.2.2.2.2.2.2.2.2.2.1 | exact wz.2.2.2.2.2.2.2.2.2.2.2.2.2 | exact Ne.symm wz.2.2.2.2.2.2.2.2.2.2.2.2.2 | exact Nat.ne_of_lt wz.2.2.2.2.2.2.2.2.2.2.2.2.2 | exact Nat.ne_of_gt wz.2.2.2.2.2.2.2.2.2.2.2.2.2 | exact wz.2.2.2.2.2.2.2.2.2.2.2.2.2.1.1 | exact Ne.symm wz.2.2.2.2.2.2.2.2.2.2.2.2.2.1.1 | exact wz.2.2.2.2.2.2.2.2.2.2.2.2.2.1.2.1 | exact Ne.symm wz.2.2.2.2.2.2.2.2.2.2.2.2.2.1.2.1 | exact wz.2.2.2.2.2.2.2.2.2.2.2.2.2.1.2.2 | exact Ne.symm wz.2.2.2.2.2.2.2.2.2.2.2.2.2.1.2.2 | clear wz))); done)
  k_with "om" => ((fail_if_success (with_reducible rename OmMark => x9)); first | decide | exact le_lit (by with_reducible assumption) rfl | exact room1 (by with_reducible assumption) rfl | exact room2 (by with_reducible assumption) rfl | exact room3 (by with_reducible assumption) rfl | ((have m9 : OmMark := OmMark.mk); (first | (with_reducible rename _ ∧ _ => z9; clear z9) | (with_reducible rename @Ne _ _ _ => z9; clear z9)); (repeat (with_reducible rename _ ∧ _ => z9; clear z9)); (repeat (with_reducible rename @Ne _ _ _ => z9; clear z9)); omega))
  k_with "wpAt" => (ks_step "execs cons"; k_dflt (refine ks_wpAt_execs_cons ?_))
  k_with "wpAt" => (ks_step "exec Expr"; k_dflt (refine ks_wpAt_Expr_any ?_))
  k_with "wpAt" => (ks_step "eval Call"; k_dflt (refine ks_wpAt_MethodCall ?_))
  k_with "call type:tuple" => (k_here; (with_reducible show wpAny _ _ (call (Value.type "tuple") [Value.ref _]) _ _ _); k_dflt (refine' call_tuple_tup (tupO_tup ?w3wN ?w3wm) ?_; (case w3wN => k_asm); (case w3wm => (repeat (first | exact List.Mem.head _ | refine List.Mem.tail _ ?_)))))
  k_with "binaryOp Add" => (k_here; (with_reducible show wpAny _ _ (binaryOp _ (Value.ref _) (Value.ref _)) _ _ _); k_dflt (refine' tup_add0 ?w4wF ?w4wN ?w4wht ?w4whb ?w4whi ?w4whj ?w4whl ?w4whl' ?w4whd ?_; (case w4wF => k_asm); (case w4wN => k_asm); (case w4wht => k_mem); (case w4whb => k_mem); (case w4whi => assumption); (case w4whj => assumption); (case w4whl => assumption); (case w4whl' => assumption); (case w4whd => k_mem)); intro w4wz' w4wh' w4wF' w4wN' w4whI' w4whzd')
  k_with "call type:zip" => (k_here; k_dflt (refine' zipK_ ?w5wF ?w5wN ?w5whx ?w5why ?_; (case w5wF => k_asm); (case w5wN => k_asm); (case w5whx => k_mem); (case w5why => k_mem)); intro w5wI' w5wh' w5wF' w5wN' w5wZ')
  k_with "call type:tuple" => (k_here; (with_reducible show wpAny _ _ (call (Value.type "tuple") [Value.ref (_ + 4)]) _ _ _); k_dflt (refine' tupleK_ ?w6wF ?w6wN ?w6wZ ?w6whh ?w6whl ?_; (case w6wZ => assumption); (case w6wF => k_asm); (case w6wN => k_asm); (case w6whh => with_unfolding_all rfl); (case w6whl => omega)); intro w6wD' w6wzs' w6wh' w6wtk' w6wF' w6wN' l1; (try k_lt l1))
  k_with "call builtin:len" => (k_here; (with_reducible show wpAny _ _ (call (Value.builtin "len") [Value.ref _]) _ _ _); k_dflt (refine' len_tupO ?w7wN ?w7wht ?w7whi ?w7whl ?_; (case w7wN => k_asm); (case w7wht => k_mem); (case w7whi => assumption); (case w7whl => omega)); intro w7wtk' w7wtks')
  k_with "compareOp Eq str str" => (k_here; (with_reducible show wpAny _ _ (compareOp CmpOp.Eq (Value.str (lexNm _) _) (Value.str _ _)) _ _ _); with_reducible first | refine eq_nm0 ?_ | refine eq_nm1 ?_ | refine eq_nm2 ?_)
  revert X
  k_fill
  intro X
  have hlv := hI.length
  have hlu := hJ.length
  refine wpAny_call ?_
  k_dflt cell_enter
  k_steps
  all_goals ((rename News h₀ L _ _ => kN); exact hret _ _ _ _ _ _ _ _ _ _ _ _ _ _ _ _ _ (kst_newsOf kN (by kcf_all)) (by assumption) (news_tup_dct kN (.tail _ (.head _)) (by k_mem)) ⟨by omega, by omega, by omega, by omega, by simp_all only⟩)
end
section
theorem lexed_tells {w : World} {mean : ExcName → Option Value} {mg mb : Str → Option Value} {dp un : Nat} {gd : Option (List Code)} {cn : Str} {cs : Scope} {a : Addr} {ccd : Value} {cl : List (Str × Addr)} {outer : List Env} {A₀ : Around} {base h₀ : Heap} {L : Addr} {m : Str → Option Value} {s : Shared} {Q E : Value → Shared → Prop}
    {u v : Addr} {rest : List (Addr × Obj)} {xs ys : List Value} {as bs : List Int} {e f : Nat} {st : Bool}
    (B : Below A₀ base outer h₀) (F : Fr h₀ L s.heap m) (X : (hd.heap_39 w.params).In h₀) (N : News h₀ L s.heap ((v, listOf ys.toArray e) :: (u, listOf xs.toArray f) :: rest)) (Tp : Top hd.view_39 (looseW hd.view_39 []) mean mg mb h₀) (hk : cs.kind = .function)
    (hI : IntsAre xs as) (hl : as.length ≤ 60) (hJ : IntsAre ys bs) (hl' : bs.length ≤ 60) (hdp : dp + 5 < recursionLimit) (hun : un + 200 < cLine)
    (hret : ∀ b h' tk', b = lexKeeps as bs st → Fr h₀ L h' m → News h₀ L h' ((v, listOf ys.toArray e) :: (u, listOf xs.toArray f) :: rest) → Q (.bool b) { s with heap := h', toks := tk' }) :
    wpAny (model PySem.Challenge.rw_nz0011_01.row.prog w) (ktrTop dp un gd cn cs L a ccd cl outer) (call (.ref 255) [.ref u, .ref v, .bool st]) Q E s := by
  w_top off
  k_with_none
  k_with "ne" => (refine neN ?_; (try dsimp only); (first | with_reducible assumption | (with_reducible refine Ne.symm ?_; assumption) | (repeat (with_reducible rename _ ∧ _ => wz; first | exact wz.1 | exact Ne.symm wz.1 | exact Nat.ne_of_lt wz.1 | exact Nat.ne_of_gt wz.1 | exact wz.1.1 | exact Ne.symm wz.1.1 | exact wz.1.2.1 | exact Ne.symm wz.1.2.1 | exact wz.1.2.2 | exact Ne.symm wz.1.2.2 | exact wz.2.1 | exact Ne.symm wz.2.1 | exact Nat.ne_of_lt wz.2.1 | exact Nat.ne_of_gt wz.2.1 | exact wz.2 | exact Ne.symm wz.2 | exact Nat.ne_of_lt wz.2 | exact Nat.ne_of_gt wz.2 | exact wz.2.1.1 | exact Ne.symm wz.2.1.1 | exact wz.2.1.2.1 | exact Ne.symm wz.2.1.2.1 | exact wz.2.1.2.2 | exact Ne.symm wz.2.1.2.2 | exact wz.2.2.1 | exact Ne.symm wz.2.2.1 | exact Nat.ne_of_lt wz.2.2.1 | exact Nat.ne_of_gt wz.2.2.1 | exact wz.2.2 | exact Ne.symm wz.2.2 | exact Nat.ne_of_lt wz.2.2 | exact Nat.ne_of_gt wz.2.2 | exact wz.2.2.1.1 | exact Ne.symm wz.2.2.1.1 | exact wz.2.2.1.2.1 | exact Ne.symm wz.2.2.1.2.1 | exact wz.2.2.1.2.2 | exact Ne.symm wz.2.2.1.2.2 | exact wz.2.2.2.1 | exact Ne.symm wz.2.2.2.1 | exact Nat.ne_of_lt wz.2.2.2.1 | exact Nat.ne_of_gt wz.2.2.2.1 | exact wz.2.2.2 | exact Ne.symm wz.2.2.2 | exact Nat.ne_of_lt wz.2.2.2 | exact Nat.ne_of_gt wz.2.2.2 | exact wz.2.2.2.1.1 | exact Ne.symm wz.2.2.2.1.1 | exact wz.2.2.2.1.2.1 | exact Ne.symm wz.2.2.2.1.2.1 | exact wz.2.2.2.1.2.2 | exact Ne.symm wz.2.2.2.1.2.2 | exact wz.2.2.2.2.1 | exact Ne.symm wz.2.2.2.2.1 | exact Nat.ne_of_lt wz.2.2.2.2.1 | exact Nat.ne_of_gt wz.2.2.2.2.1 | exact wz.2.2.2.2 | exact Ne.symm wz.2.2.2.2 | exact Nat.ne_of_lt wz.2.2.2.2 | exact Nat.ne_of_gt wz.2.2.2.2 | exact wz.2.2.2.2.1.1 | exact Ne.symm wz.2.2.2.2.1.1 | exact wz.2.2.2.2.1.2.1 | exact Ne.symm wz.2.2.2.2.1.2.1 | exact wz.2.2.2.2.1.2.2 | exact Ne.symm wz.2.2.2.2.1.2.2 | exact wz.2.2.2.2.2.1 | exact Ne.symm wz.2.2.2.2.2.1 | exact Nat.ne_of_lt wz.2.2.2.2.2.1 | exact Nat.ne_of_gt wz.2.2.2.2.2.1 | exact wz.2.2.2.2.2 | exact Ne.symm wz.2.2.2.2.2 | exact Nat.ne_of_lt wz.2.2.2.2.2 | exact Nat.ne_of_gt wz.2.2.2.2.2 | exact wz.2.2.2.2.2.1.1 | exact Ne.symm wz.2.2.2.2.2.1.1 | exact wz.2.2.2.2.2.1.2.1 | exact Ne.symm wz.2.2.2.2.2.1.2.1 | exact wz.2.2.2.2.2.1.2.2 | exact Ne.symm wz.2.2.2.2.2.1.2.2 | exact wz.2.2.2.2.2.2.1 | exact Ne.symm wz.2.2.2.2.2.2.1 | exact Nat.ne_of_lt wz.2.2.2.2.2.2.1 | exact Nat.ne_of_gt wz.2.2.2.2.2.2.1 | exact wz.2.2.2.2.2.2 | exact Ne.symm wz.2.2.2.2.2.2 | exact Nat.ne_of_lt wz.2.2.2.2.2.2 | exact Nat.ne_of_gt wz.2.2.2.2.2.2 | exact wz.2.2.2.2.2.2.1.1 | exact Ne.symm wz.2.2.2.2.2.2.1.1 | exact wz.2.2.2.2.2.2.1.2.1 | exact Ne.symm wz.2.2.2.2.2.2.1.2.1 | exact wz.2.2.2.2.2.2.1.2.2 | exact Ne.symm wz.2.2.2.2.2.2.1.2.2 | exact wz.2.2.2.2.2.2.2.1 | exact Ne.symm wz.2.2.2.2.2.2.2.1 | exact Nat.ne_of_lt wz.2.2.2.2.2.2.2.1 | exact Nat.ne_of_gt wz.2.2.2.2.2.2.2.1 | exact wz.2.2.2.2.2.2.2 | exact Ne.symm wz.2.2.2.2.2.2.2 | exact Nat.ne_of_lt wz.2.2.2.2.2.2.2 | exact Nat.ne_of_gt wz.2.2.2.2.2.2.2 | exact wz.2.2.2.2.2.2.2.1.1 | exact Ne.symm wz.2.2.2.2.2.2.2.1.1 | exact wz.2.2.2.2.2.2.2.1.2.1 | exact Ne.symm wz.2.2.2.2.2.2.2.1.2.1 | exact wz.2.2.2.2.2.2.2.1.2.2 | exact Ne.symm wz.2.2.2.2.2.2.2.1.2.2 | exact wz.2.2.2.2.2.2.2.2.1 | exact Ne.symm wz.2.2.2.2.2.2.2.2.1 | exact Nat.ne_of_lt wz.2.2.2.2.2.2.2.2.1 | exact Nat.ne_of_gt wz.2.2.2.2.2.2.2.2.1 | exact wz.2.2.2.2.2.2.2.2 | exact Ne.symm wz.2.2.2.2.2.2.2.2 | exact Nat.ne_of_lt wz.2.2.2.2.2.2.2.2 | exact Nat.ne_of_gt wz.2.2.2.2.2.2.2.2 | exact wz.2.2.2.2.2.2.2.2.1.1 | exact Ne.symm wz.2.2.2.2.2.2.2.2.1.1 | exact wz.2.2.2.2.2.2.2.2.1.2.1 | exact Ne.symm wz.2.2.2.2.2.2.2.2.1.2.1 | exact wz.2.2.2.2.2.2.2.2.1.2.2 | exact Ne.symm wz.2.2.2.2.2.2.2.2.1.2.2 | exact wz.2.2.2.2.2.2.2.2.2.1 | exact Ne.symm wz.2.2.2.2.2.2.2.2.2.1 | exact Nat.ne_of_lt wz.2.2.2.2.2.2.2.2.2.1 | exact Nat.ne_of_gt wz.2.2.2.2.2.2.2.2.2.1 | exact wz.2.2.2.2.2.2.2.2.2 | exact Ne.symm wz.2.2.2.2.2.2.2.2.2 | exact Nat.ne_of_lt wz.2.2.2.2.2.2.2.2.2 | exact Nat.ne_of_gt wz.2.2.2.2.2.2.2.2.2 | exact wz.2.2.2.2.2.2.2.2.2.1.1 | exact Ne.symm wz.2.2.2.2.2.2.2.2.2.1.1 | exact wz.2.2.2.2.2.2.2.2.2.1.2.1 | exact Ne.symm wz.2.2.2.2.2.2.2.2.2.1.2.1 | exact wz.2.2.2.2.2.2.2.2.2.1.2.2 | exact Ne.symm wz.2.2.2.2.2.2.2.2.2.1.2.2 | exact wz.2.2.2.2.2.2.2.2.2.2.1 | exact Ne.symm wz.2.2.2.2.2.2.2.2.2.2.1 | exact Nat.ne_of_lt wz.2.2.2.2.2.2.2.2.2.2.1 | exact Nat.ne_of_gt wz.2.2.2.2.2.2.2.2.2.2.1 | exact wz.2.2.2.2.2.2.2.2.2.2 | exact Ne.symm wz.2.2.2.2.2.2.2.2.2.2 | exact Nat.ne_of_lt wz.2.2.2.2.2.2.2.2.2.2 | exact Nat.ne_of_gt wz.2.2.2.2.2.2.2.2.2.2 | exact wz.2.2.2.2.2.2.2.2.2.2.1.1 | exact Ne.symm wz.2.2.2.2.2.2.2.2.2.2.1.1 | exact wz.2.2.2.2.2.2.2.2.2.2.1.2.1 | exact Ne.symm wz.2.2.2.2.2.2.2.2.2.2.1.2.1 | exact wz.2.2.2.2.2.2.2.2.2.2.1.2.2 | exact Ne.symm wz.2.2.2.2.2.2.2.2.2.2.1.2.2 | exact wz.2.2.2.2.2.2.2.2.2.2.2.1 | exact Ne.symm wz.2.2.2.2.2.2.2.2.2.2.2.1 | exact Nat.ne_of_lt wz.2.2.2.2.2.2.2.2.2.2.2.1 | exact Nat.ne_of_gt wz.2.2.2.2.2.2.2.2.2.2.2.1 | exact wz.2.2.2.2.2.2.2.2.2.2.2 | exact Ne.symm wz.2.2.2.2.2.2.2.2.2.2.2 | exact Nat.ne_of_lt wz.2.2.2.2.2.2.2.2.2.2.2 | exact Nat.ne_of_gt wz.2.2.2.2.2.2.2.2.2.2.2 | exact wz.2.2.2.2.2.2.2.2.2.2.2.1.1 | exact Ne.symm wz.2.2.2.2.2.2.2.2.2.2.2.1.1 | exact wz.2.2.2.2.2.2.2.2.2.2.2.1.2.1 | exact Ne.symm wz.2.2.2.2.2.2.2.2.2.2.2.1.2.1 | exact wz.2.2.2.2.2.2.2.2.2.2.2.1.2.2 | exact Ne.symm wz.2.2.2.2.2.2.2.2.2.2.2.1.2.2 | exact wz.2.2.2.2.2.2.2.2.2.2.2.2.1 | exact Ne.symm wz.2.2.2.2.2.2.2.2.2.2.2.2.1 | exact Nat.ne_of_lt wz.2.2.2.2.2.2.2.2.2.2.2.2.1 | exact Nat.ne_of_gt wz.2.2.2.2.2.2.2.2.2.2.2.2.1 | exact wz.2.2.2.2.2.2.2.2.2.2.2.2 | exact Ne.symm wz.2.2.2.2.2.2.2.2.2.2.2.2 | exact Nat.ne_of_lt wz.2.2.2.2.2.2.2.2.2.2.2.2 | exact Nat.ne_of_gt wz.2.2.2.2.2.2.2.2.2.2.2.2 | exact wz.2.2.2.2.2.2.2.2.2.2.2.2.1.1 | exact Ne.symm wz.2.2.2.2.2.2.2.2.2.2.2.2.1.1 | exact wz.2.2.2.2.2.2.2.2.2.2.2.2.1.2.1 | exact Ne.symm wz.2.2.2.2.2.2.2.2.2.2.2.2.1.2.1 | exact wz.2.2.2.2.2.2.2.2.2.2.2.2.1.2.2 | exact Ne.symm wz.2.2.2.2.2.2.2.2.2.2.2.2.1.2.2 | exact wz.2.2.2.2.2.2.2.2.2.2.2.2.2.1 | exact Ne.symm wz.2.2.2.2.2.2.2.2.2.2.2.2.2.1 | exact Nat.ne_of_lt wz.2.2.2.2.2.2.2.2.2.2.2.2.2.1 | exact Nat.ne_of_gt wz.2.2.2.2.2.2.2.2.2.2.2.2.2.1 | exact wz.2.2.2.2.2.2.2.2.2.2.2.2.2 | exact Ne.symm wz.2.2.2.2.2.2.2.2.2.2.2.2.2 | exact Nat.ne_of_lt wz.2.2.2.2.2.2.2.2.2.2.2.2.2 | exact Nat.ne_of_gt wz.2.2.2.2.2.2.2.2.2.2.2.2.2 | exact wz.2.2.2.2.2.2.2.2.2.2.2.2.2.1.1 | exact Ne.symm wz.2.2.2.2.2.2.2.2.2.2.2.2.2.1.1 | exact wz.2.2.2.2.2.2.2.2.2.2.2.2.2.1.2.1 | exact Ne.symm wz.2.2.2.2.2.2.2.2.2.2.2.2.2.1.2.1 | exact wz.2.2.2.2.2.2.2.2.2.2.2.2.2.1.2.2 | exact Ne.symm wz.2.2.2.2.2.2.2.2.2.2.2.2.2.1.2.2 | clear wz))); done)
  k_with "om" => ((fail_if_success (with_reducible rename OmMark => x9)); first | decide | exact le_lit (by with_reducible assumption) rfl | exact room1 (by with_reducible assumption) rfl | exact room2 (by with_reducible assumption) rfl | exact room3 (by with_reducible assumption) rfl | ((have m9 : OmMark := OmMark.mk); (first | (with_reducible rename _ ∧ _ => z9; clear z9) | (with_reducible rename @Ne _ _ _ => z9; clear z9)); (repeat (with_reducible rename _ ∧ _ => z9; clear z9)); (repeat (with_reducible rename @Ne _ _ _ => z9; clear z9)); omega))
  k_with "subscriptTail Name Slice ref ref" => (k_here; (with_reducible show wpAny _ _ (subscriptTail _ (PySem.Expr.Slice none (some _) none _) (Value.ref _) (Value.ref _)) _ _ _); k_dflt (refine' cutl_upto ?w0wF ?w0wN ?w0wht ?w0whi ?w0whl ?w0wb0 ?w0wb1 ?_ ?w0whs ?w0whg; (case w0wF => k_asm); (case w0wN => k_asm); (case w0wht => (repeat (first | exact List.Mem.head _ | refine List.Mem.tail _ ?_))); (case w0whi => assumption); (case w0whl => omega); (case w0wb0 => omega); (case w0wb1 => omega); (case w0whs => with_unfolding_all rfl); (case w0whg => (intro _; with_unfolding_all rfl))); intro w0wz' w0wh' w0wzs' w0wF' w0wN' l1 w0whI' w0whL'; (try k_lt l1))
  k_with "subscriptTail Name Slice ref ref" => (k_here; (with_reducible show wpAny _ _ (subscriptTail _ (PySem.Expr.Slice (some _) none none _) (Value.ref _) (Value.ref _)) _ _ _); k_dflt (refine' cutl_from ?w1wF ?w1wN ?w1wht ?w1whi ?w1whl ?w1wb0 ?w1wb1 ?_ ?w1whs ?w1whg; (case w1wF => k_asm); (case w1wN => k_asm); (case w1wht => (repeat (first | exact List.Mem.head _ | refine List.Mem.tail _ ?_))); (case w1whi => assumption); (case w1whl => omega); (case w1wb0 => omega); (case w1wb1 => omega); (case w1whs => with_unfolding_all rfl); (case w1whg => (intro _; with_unfolding_all rfl))); intro w1wz' w1wh' w1wzs' w1wF' w1wN' l1 w1whI' w1whL'; (try k_lt l1))
  k_with "exec For Name Call cons nil" => (k_here; (rename Fr _ _ _ _ => w2wlF'); (with_unfolding_all refine' For_invVF w2wlF' ?w2wk1 ?w2wk2 ?_; (case w2wk1 => exact rfl); (case w2wk2 => exact rfl); k_whole))
  revert X
  k_fill
  intro X
  k_with "pyIter ref" => k_search (fun pre => EqTo as bs pre.length)
  k_with "state" => first | exact eqTo_nil _ _ | exact eqTo_snoc (by assumption) (by assumption) (by assumption) (by assumption) (by assumption)
  refine wpAny_call ?_
  k_dflt cell_enter
  k_steps
  all_goals ((rename News h₀ L _ _ => kN); (rename Fr h₀ L _ m => kF); refine hret _ _ _ ?_ kF (kst_newsOf kN (by kcf_all)))
  · exact lexEnd_short (by assumption) (by assumption) (by assumption) (by assumption)
  · exact lexEnd_long (by assumption) (by assumption) (by assumption) (by assumption)
  · exact lexEnd_differ (by assumption) (by assumption) (by assumption) (by assumption) (by assumption)
  · exact lexEnd_all (by assumption)
theorem lexed_use {w : World} {mean : ExcName → Option Value} {mg mb : Str → Option Value} {dp un : Nat} {gd : Option (List Code)} {cn : Str} {cs : Scope} {a : Addr} {ccd : Value} {cl : List (Str × Addr)} {outer : List Env} {A₀ : Around} {base h₀ : Heap} {L : Addr} {m : Str → Option Value} {s : Shared} {Q E : Value → Shared → Prop}
    {u v : Addr} {news : List (Addr × Obj)} {xs ys : List Value} {as bs : List Int} {e f : Nat} {st : Bool}
    (B : Below A₀ base outer h₀) (F : Fr h₀ L s.heap m) (X : (hd.heap_39 w.params).In h₀) (N : News h₀ L s.heap news) (Tp : Top hd.view_39 (looseW hd.view_39 []) mean mg mb h₀) (hk : cs.kind = .function)
    (hu : (u, listOf xs.toArray f) ∈ news) (hv : (v, listOf ys.toArray e) ∈ news) (hI : IntsAre xs as) (hl : as.length ≤ 60) (hJ : IntsAre ys bs) (hl' : bs.length ≤ 60) (hdp : dp + 5 < recursionLimit) (hun : un + 200 < cLine)
    (hret : ∀ b h' tk', b = lexKeeps as bs st → Fr h₀ L h' m → News h₀ L h' news → Q (.bool b) { s with heap := h', toks := tk' }) :
    wpAny (model PySem.Challenge.rw_nz0011_01.row.prog w) (ktrTop dp un gd cn cs L a ccd cl outer) (call (.ref 255) [.ref u, .ref v, .bool st]) Q E s := by
  refine lexed_tells (rest := news) (e := e) (f := f) B F X (fun p hp => ?_) Tp hk hI hl hJ hl' hdp hun fun b h' tk' hb F' N' => hret b h' tk' hb F' fun p hp => N' p (.tail _ (.tail _ hp))
  rcases List.mem_cons.mp hp with rfl | hp
  · exact N _ hv
  rcases List.mem_cons.mp hp with rfl | hp
  · exact N _ hu
  · exact N _ hp
end
section
theorem kp0_tells {w : World} {mean : ExcName → Option Value} {mg mb : Str → Option Value} {dp un : Nat} {gd : Option (List Code)} {cn : Str} {cs : Scope} {a : Addr} {ccd : Value} {cl : List (Str × Addr)} {outer : List Env} {A₀ : Around} {base h₀ : Heap} {L : Addr} {m : Str → Option Value} {s : Shared} {Q E : Value → Shared → Prop}
    {T x v : Addr} {rest : List (Addr × Obj)} {ys : List Value} {ns : List Int} {tks : Tok}
    (B : Below A₀ base outer h₀) (F : Fr h₀ L s.heap m) (X : (hd.heap_39 w.params).In h₀) (N : News h₀ L s.heap ((v, LCg.lst ys) :: (T, tupO [.str (Str.ofString "increasing") tks, .ref x]) :: rest)) (Tp : Top hd.view_39 (looseW hd.view_39 []) mean mg mb h₀) (hk : cs.kind = .function)
    (hI : IntsAre ys ns) (hl : ns.length ≤ 6) (hdp : dp + 5 < recursionLimit) (hun : un + 200 < cLine)
    (hret : ∀ b h' tk', b = incB ns → Fr h₀ L h' m → News h₀ L h' ((v, LCg.lst ys) :: (T, tupO [.str (Str.ofString "increasing") tks, .ref x]) :: rest) → Q (.bool b) { s with heap := h', toks := tk' }) :
    wpAny (model PySem.Challenge.rw_nz0011_01.row.prog w) (ktrTop dp un gd cn cs L a ccd cl outer) (call (.ref 260) [.ref T, .ref v]) Q E s := by
  w_top off
  k_with_none
  k_with "ne" => (refine neN ?_; (try dsimp only); (first | with_reducible assumption | (with_reducible refine Ne.symm ?_; assumption) | (repeat (with_reducible rename _ ∧ _ => wz; first | exact wz.1 | exact Ne.symm wz.1 | exact Nat.ne_of_lt wz.1 | exact Nat.ne_of_gt wz.1 | exact wz.1.1 | exact Ne.symm wz.1.1 | exact wz.1.2.1 | exact Ne.symm wz.1.2.1 | exact wz.1.2.2 | exact Ne.symm wz.1.2.2 | exact wz.2.1 | exact Ne.symm wz.2.1 | exact Nat.ne_of_lt wz.2.1 | exact Nat.ne_of_gt wz.2.1 | exact wz.2 | exact Ne.symm wz.2 | exact Nat.ne_of_lt wz.2 | exact Nat.ne_of_gt wz.2 | exact wz.2.1.1 | exact Ne.symm wz.2.1.1 | exact wz.2.1.2.1 | exact Ne.symm wz.2.1.2.1 | exact wz.2.1.2.2 | exact Ne.symm wz.2.1.2.2 | exact wz.2.2.1 | exact Ne.symm wz.2.2.1 | exact Nat.ne_of_lt wz.2.2.1 | exact Nat.ne_of_gt wz.2.2.1 | exact wz.2.2 | exact Ne.symm wz.2.2 | exact Nat.ne_of_lt wz.2.2 | exact Nat.ne_of_gt wz.2.2 | exact wz.2.2.1.1 | exact Ne.symm wz.2.2.1.1 | exact wz.2.2.1.2.1 | exact Ne.symm wz.2.2.1.2.1 | exact wz.2.2.1.2.2 | exact Ne.symm wz.2.2.1.2.2 | exact wz.2.2.2.1 | exact Ne.symm wz.2.2.2.1 | exact Nat.ne_of_lt wz.2.2.2.1 | exact Nat.ne_of_gt wz.2.2.2.1 | exact wz.2.2.2 | exact Ne.symm wz.2.2.2 | exact Nat.ne_of_lt wz.2.2.2 | exact Nat.ne_of_gt wz.2.2.2 | exact wz.2.2.2.1.1 | exact Ne.symm wz.2.2.2.1.1 | exact wz.2.2.2.1.2.1 | exact Ne.symm wz.2.2.2.1.2.1 | exact wz.2.2.2.1.2.2 | exact Ne.symm wz.2.2.2.1.2.2 | exact wz.2.2.2.2.1 | exact Ne.symm wz.2.2.2.2.1 | exact Nat.ne_of_lt wz.2.2.2.2.1 | exact Nat.ne_of_gt wz.2.2.2.2.1 | exact wz.2.2.2.2 | exact Ne.symm wz.2.2.2.2 | exact Nat.ne_of_lt wz.2.2.2.2 | exact Nat.ne_of_gt wz.2.2.2.2 | exact wz.2.2.2.2.1.1 | exact Ne.symm wz.2.2.2.2.1.1 | exact wz.2.2.2.2.1.2.1 | exact Ne.symm wz.2.2.2.2.1.2.1 | exact wz.2.2.2.2.1.2.2 | exact Ne.symm wz.2.2.2.2.1.2.2 | exact wz.2.2.2.2.2.1 | exact Ne.symm wz.2.2.2.2.2.1 | exact Nat.ne_of_lt wz.2.2.2.2.2.1 | exact Nat.ne_of_gt wz.2.2.2.2.2.1 | exact wz.2.2.2.2.2 | exact Ne.symm wz.2.2.2.2.2 | exact Nat.ne_of_lt wz.2.2.2.2.2 | exact Nat.ne_of_gt wz.2.2.2.2.2 | exact wz.2.2.2.2.2.1.1 | exact Ne.symm wz.2.2.2.2.2.1.1 | exact wz.2.2.2.2.2.1.2.1 | exact Ne.symm wz.2.2.2.2.2.1.2.1 | exact wz.2.2.2.2.2.1.2.2 | exact Ne.symm wz.2.2.2.2.2.1.2.2 | exact wz.2.2.2.2.2.2.1 | exact Ne.symm wz.2.2.2.2.2.2.1 | exact Nat.ne_of_lt wz.2.2.2.2.2.2.1 | exact Nat.ne_of_gt wz.2.2.2.2.2.2.1 | exact wz.2.2.2.2.2.2 | exact Ne.symm wz.2.2.2.2.2.2 | exact Nat.ne_of_lt wz.2.2.2.2.2.2 | exact Nat.ne_of_gt wz.2.2.2.2.2.2 | exact wz.2.2.2.2.2.2.1.1 | exact Ne.symm wz.2.2.2.2.2.2.1.1 | exact wz.2.2.2.2.2.2.1.2.1 | exact Ne.symm wz.2.2.2.2.2.2.1.2.1 | exact wz.2.2.2.2.2.2.1.2.2 | exact Ne.symm wz.2.2.2.2.2.2.1.2.2 | exact wz.2.2.2.2.2.2.2.1 | exact Ne.symm wz.2.2.2.2.2.2.2.1 | exact Nat.ne_of_lt wz.2.2.2.2.2.2.2.1 | exact Nat.ne_of_gt wz.2.2.2.2.2.2.2.1 | exact wz.2.2.2.2.2.2.2 | exact Ne.symm wz.2.2.2.2.2.2.2 | exact Nat.ne_of_lt wz.2.2.2.2.2.2.2 | exact Nat.ne_of_gt wz.2.2.2.2.2.2.2 | exact wz.2.2.2.2.2.2.2.1.1 | exact Ne.symm wz.2.2.2.2.2.2.2.1.1 | exact wz.2.2.2.2.2.2.2.1.2.1 | exact Ne.symm wz.2.2.2.2.2.2.2.1.2.1 | exact wz.2.2.2.2.2.2.2.1.2.2 | exact Ne.symm wz.2.2.2.2.2.2.2.1.2.2 | exact wz.2.2.2.2.2.2.2.2.1 | exact Ne.symm wz.2.2.2.2.2.2.2.2.1 | exact Nat.ne_of_lt wz.2.2.2.2.2.2.2.2.1 | exact Nat.ne_of_gt wz.2.2.2.2.2.2.2.2.1 | exact wz.2.2.2.2.2.2.2.2 | exact Ne.symm wz.2.2.2.2.2.2.2.2 | exact Nat.ne_of_lt wz.2.2.2.2.2.2.2.2 | exact Nat.ne_of_gt wz.2.2.2.2.2.2.2.2 | exact wz.2.2.2.2.2.2.2.2.1.1 | exact Ne.symm wz.2.2.2.2.2.2.2.2.1.1 | exact wz.2.2.2.2.2.2.2.2.1.2.1 | exact Ne.symm wz.2.2.2.2.2.2.2.2.1.2.1 | exact wz.2.2.2.2.2.2.2.2.1.2.2 | exact Ne.symm wz.2.2.2.2.2.2.2.2.1.2.2 | exact wz.2.2.2.2.2.2.2.2.2.1 | exact Ne.symm wz.2.2.2.2.2.2.2.2.2.1 | exact Nat.ne_of_lt wz.2.2.2.2.2.2.2.2.2.1 | exact Nat.ne_of_gt wz.2.2.2.2.2.2.2.2.2.1 | exact wz.2.2.2.2.2.2.2.2.2 | exact Ne.symm wz.2.2.2.2.2.2.2.2.2 | exact Nat.ne_of_lt wz.2.2.2.2.2.2.2.2.2 | exact Nat.ne_of_gt wz.2.2.2.2.2.2.2.2.2 | exact wz.2.2.2.2.2.2.2.2.2.1.1 | exact Ne.symm wz.2.2.2.2.2.2.2.2.2.1.1 | exact wz.2.2.2.2.2.2.2.2.2.1.2.1 | exact Ne.symm wz.2.2.2.2.2.2.2.2.2.1.2.1 | exact wz.2.2.2.2.2.2.2.2.2.1.2.2 | exact Ne.symm wz.2.2.2.2.2.2.2.2.2.1.2.2 | exact wz.2.2.2.2.2.2.2.2.2.2.1 | exact Ne.symm wz.2.2.2.2.2.2.2.2.2.2.1 | exact Nat.ne_of_lt wz.2.2.2.2.2.2.2.2.2.2.1 | exact Nat.ne_of_gt wz.2.2.2.2.2.2.2.2.2.2.1 | exact wz.2.2.2.2.2.2.2.2.2.2 | exact Ne.symm wz.2.2.2.2.2.2.2.2.2.2 | exact Nat.ne_of_lt wz.2.2.2.2.2.2.2.2.2.2 | exact Nat.ne_of_gt wz.2.2.2.2.2.2.2.2.2.2 | exact wz.2.2.2.2.2.2.2.2.2.2.1.1 | exact Ne.symm wz.2.2.2.2.2.2.2.2.2.2.1.1 | exact wz.2.2.2.2.2.2.2.2.2.2.1.2.1 | exact Ne.symm wz.2.2.2.2.2.2.2.2.2.2.1.2.1 | exact wz.2.2.2.2.2.2.2.2.2.2.1.2.2 | exact Ne.symm wz.2.2.2.2.2.2.2.2.2.2.1.2.2 | exact wz.2.2.2.2.2.2.2.2.2.2.2.1 | exact Ne.symm wz.2.2.2.2.2.2.2.2.2.2.2.1 | exact Nat.ne_of_lt wz.2.2.2.2.2.2.2.2.2.2.2.1 | exact Nat.ne_of_gt wz.2.2.2.2.2.2.2.2.2.2.2.1 | exact wz.2.2.2.2.2.2.2.2.2.2.2 | exact Ne.symm wz.2.2.2.2.2.2.2.2.2.2.2 | exact Nat.ne_of_lt wz.2.2.2.2.2.2.2.2.2.2.2 | exact Nat.ne_of_gt wz.2.2.2.2.2.2.2.2.2.2.2 | exact wz.2.2.2.2.2.2.2.2.2.2.2.1.1 | exact Ne.symm wz.2.2.2.2.2.2.2.2.2.2.2.1.1 | exact wz.2.2.2.2.2.2.2.2.2.2.2.1.2.1 | exact Ne.symm wz.2.2.2.2.2.2.2.2.2.2.2.1.2.1 | exact wz.2.2.2.2.2.2.2.2.2.2.2.1.2.2 | exact Ne.symm wz.2.2.2.2.2.2.2.2.2.2.2.1.2.2 | exact wz.2.2.2.2.2.2.2.2.2.2.2.2.1 | exact Ne.symm wz.2.2.2.2.2.2.2.2.2.2.2.2.1 | exact Nat.ne_of_lt wz.2.2.2.2.2.2.2.2.2.2.2.2.1 | exact Nat.ne_of_gt wz.2.2.2.2.2.2.2.2.2.2.2.2.1 | exact wz.2.2.2.2.2.2.2.2.2.2.2.2 | exact Ne.symm wz.2.2.2.2.2.2.2.2.2.2.2.2 | exact Nat.ne_of_lt wz.2.2.2.2.2.2.2.2.2.2.2.2 | exact Nat.ne_of_gt wz.2.2.2.2.2.2.2.2.2.2.2.2 | exact wz.2.2.2.2.2.2.2.2.2.2.2.2.1.1 | exact Ne.symm wz.2.2.2.2.2.2.2.2.2.2.2.2.1.1 | exact wz.2.2.2.2.2.2.2.2.2.2.2.2.1.2.1 | exact Ne.symm wz.2.2.2.2.2.2.2.2.2.2.2.2.1.2.1 | exact wz.2.2.2.2.2.2.2.2.2.2.2.2.1.2.2 | exact Ne.symm wz.2.2.2.2.2.2.2.2.2.2.2.2.1.2.2 | exact wz.2.2.2.2.2.2.2.2.2.2.2.2.2.1 | exact Ne.symm wz.2.2.2.2.2.2.2.2.2.2.2.2.2.1 | exact Nat.ne_of_lt wz.2.2.2.2.2.2.2.2.2.2.2.2.2.1 | exact Nat.ne_of_gt wz.2.2.2.2.2.2.2.2.2.2.2.2.2.1 | exact wz.2.2.2.2.2.2.2.2.2.2.2.2.2 | exact Ne.symm wz.2.2.2.2.2.2.2.2.2.2.2.2.2 | exact Nat.ne_of_lt wz.2.2.2.2.2.2.2.2.2.2.2.2.2 | exact Nat.ne_of_gt wz.2.2.2.2.2.2.2.2.2.2.2.2.2 | exact wz.2.2.2.2.2.2.2.2.2.2.2.2.2.1.1 | exact Ne.symm wz.2.2.2.2.2.2.2.2.2.2.2.2.2.1.1 | exact wz.2.2.2.2.2.2.2.2.2.2.2.2.2.1.2.1 | exact Ne.symm wz.2.2.2.2.2.2.2.2.2.2.2.2.2.1.2.1 | exact wz.2.2.2.2.2.2.2.2.2.2.2.2.2.1.2.2 | exact Ne.symm wz.2.2.2.2.2.2.2.2.2.2.2.2.2.1.2.2 | clear wz))); done)
  k_with "om" => ((fail_if_success (with_reducible rename OmMark => x9)); first | decide | exact le_lit (by with_reducible assumption) rfl | exact room1 (by with_reducible assumption) rfl | exact room2 (by with_reducible assumption) rfl | exact room3 (by with_reducible assumption) rfl | ((have m9 : OmMark := OmMark.mk); (first | (with_reducible rename _ ∧ _ => z9; clear z9) | (with_reducible rename @Ne _ _ _ => z9; clear z9)); (repeat (with_reducible rename _ ∧ _ => z9; clear z9)); (repeat (with_reducible rename @Ne _ _ _ => z9; clear z9)); omega))
  k_with "CompEnd" => (k_here; k_dflt (refine' LCg.CompEnd.intro ?w0wF ?w0wN _ (fun _ h => h) ?w0woff ?w0whS ?_; (case w0wF => assumption); (case w0wN => assumption); (case w0woff => ((try dsimp only); simp only [LCg.Off3, and_true]; assumption)); (case w0whS => first | exact True.intro | assumption | lcg_src)))
  revert X
  k_fill
  intro X
  refine wpAny_call ?_
  k_dflt (refine' code_defC ?k1 ?k2 ?k3 ?k4 ?k5 ?kA ?kF ?kK ?k6 ?k7 ?k8 ?k9 ?kB ?kD ?_ ?c2 ?c3 ?c4; (case kA => exact rfl); (case kF => exact rfl); (case kK => first | exact rfl | assumption); (case k1 => k_asm); (case k2 => k_asm); (case k3 => k_asm); (case k4 => k_asm); (case k5 => k_asm); (case k6 => k_is); (case k7 => k_is); (case k8 => ktr_room); (case k9 => exact BindsTo.of_eq rfl); (case kB => exact rfl); (case kD => decide +kernel); (case c2 => exact rfl); (case c3 => exact rfl); (case c4 => exact rfl); k_whole; intro g' L' h' tk' cells' FG' F' N' Y' B' X' T' l1; (try k_lt l1); k_cells Y'; (try simp only [List.cons_append, List.nil_append] at N'); (try dsimp only); (try k_lift B'); (try k_fold))
  k_steps
  all_goals ((rename News h₀ L _ _ => kN); (rename Fr h₀ L _ m => kF); exact hret _ _ _ (inc_fold _) kF (kst_newsOf kN (by kcf_all)))
end
section
theorem kp1_tells {w : World} {mean : ExcName → Option Value} {mg mb : Str → Option Value} {dp un : Nat} {gd : Option (List Code)} {cn : Str} {cs : Scope} {a : Addr} {ccd : Value} {cl : List (Str × Addr)} {outer : List Env} {A₀ : Around} {base h₀ : Heap} {L : Addr} {m : Str → Option Value} {s : Shared} {Q E : Value → Shared → Prop}
    {T x v : Addr} {rest : List (Addr × Obj)} {ys : List Value} {ns : List Int} {tks ta tb : Tok} {p q : Int}
    (B : Below A₀ base outer h₀) (F : Fr h₀ L s.heap m) (X : (hd.heap_39 w.params).In h₀) (N : News h₀ L s.heap ((v, LCg.lst ys) :: (T, tupO [.str (Str.ofString "precede") tks, .int p ta, .int q tb, .ref x]) :: rest)) (Tp : Top hd.view_39 (looseW hd.view_39 []) mean mg mb h₀) (hk : cs.kind = .function)
    (hI : IntsAre ys ns) (hl : ns.length ≤ 6) (hdp : dp + 5 < recursionLimit) (hun : un + 200 < cLine)
    (hret : ∀ b h' tk', b = precB p q ns → Fr h₀ L h' m → News h₀ L h' ((v, LCg.lst ys) :: (T, tupO [.str (Str.ofString "precede") tks, .int p ta, .int q tb, .ref x]) :: rest) → Q (.bool b) { s with heap := h', toks := tk' }) :
    wpAny (model PySem.Challenge.rw_nz0011_01.row.prog w) (ktrTop dp un gd cn cs L a ccd cl outer) (call (.ref 260) [.ref T, .ref v]) Q E s := by
  w_top off
  k_with_none
  k_with "ne" => (refine neN ?_; (try dsimp only); (first | with_reducible assumption | (with_reducible refine Ne.symm ?_; assumption) | (repeat (with_reducible rename _ ∧ _ => wz; first | exact wz.1 | exact Ne.symm wz.1 | exact Nat.ne_of_lt wz.1 | exact Nat.ne_of_gt wz.1 | exact wz.1.1 | exact Ne.symm wz.1.1 | exact wz.1.2.1 | exact Ne.symm wz.1.2.1 | exact wz.1.2.2 | exact Ne.symm wz.1.2.2 | exact wz.2.1 | exact Ne.symm wz.2.1 | exact Nat.ne_of_lt wz.2.1 | exact Nat.ne_of_gt wz.2.1 | exact wz.2 | exact Ne.symm wz.2 | exact Nat.ne_of_lt wz.2 | exact Nat.ne_of_gt wz.2 | exact wz.2.1.1 | exact Ne.symm wz.2.1.1 | exact wz.2.1.2.1 | exact Ne.symm wz.2.1.2.1 | exact wz.2.1.2.2 | exact Ne.symm wz.2.1.2.2 | exact wz.2.2.1 | exact Ne.symm wz.2.2.1 | exact Nat.ne_of_lt wz.2.2.1 | exact Nat.ne_of_gt wz.2.2.1 | exact wz.2.2 | exact Ne.symm wz.2.2 | exact Nat.ne_of_lt wz.2.2 | exact Nat.ne_of_gt wz.2.2 | exact wz.2.2.1.1 | exact Ne.symm wz.2.2.1.1 | exact wz.2.2.1.2.1 | exact Ne.symm wz.2.2.1.2.1 | exact wz.2.2.1.2.2 | exact Ne.symm wz.2.2.1.2.2 | exact wz.2.2.2.1 | exact Ne.symm wz.2.2.2.1 | exact Nat.ne_of_lt wz.2.2.2.1 | exact Nat.ne_of_gt wz.2.2.2.1 | exact wz.2.2.2 | exact Ne.symm wz.2.2.2 | exact Nat.ne_of_lt wz.2.2.2 | exact Nat.ne_of_gt wz.2.2.2 | exact wz.2.2.2.1.1 | exact Ne.symm wz.2.2.2.1.1 | exact wz.2.2.2.1.2.1 | exact Ne.symm wz.2.2.2.1.2.1 | exact wz.2.2.2.1.2.2 | exact Ne.symm wz.2.2.2.1.2.2 | exact wz.2.2.2.2.1 | exact Ne.symm wz.2.2.2.2.1 | exact Nat.ne_of_lt wz.2.2.2.2.1 | exact Nat.ne_of_gt wz.2.2.2.2.1 | exact wz.2.2.2.2 | exact Ne.symm wz.2.2.2.2 | exact Nat.ne_of_lt wz.2.2.2.2 | exact Nat.ne_of_gt wz.2.2.2.2 | exact wz.2.2.2.2.1.1 | exact Ne.symm wz.2.2.2.2.1.1 | exact wz.2.2.2.2.1.2.1 | exact Ne.symm wz.2.2.2.2.1.2.1 | exact wz.2.2.2.2.1.2.2 | exact Ne.symm wz.2.2.2.2.1.2.2 | exact wz.2.2.2.2.2.1 | exact Ne.symm wz.2.2.2.2.2.1 | exact Nat.ne_of_lt wz.2.2.2.2.2.1 | exact Nat.ne_of_gt wz.2.2.2.2.2.1 | exact wz.2.2.2.2.2 | exact Ne.symm wz.2.2.2.2.2 | exact Nat.ne_of_lt wz.2.2.2.2.2 | exact Nat.ne_of_gt wz.2.2.2.2.2 | exact wz.2.2.2.2.2.1.1 | exact Ne.symm wz.2.2.2.2.2.1.1 | exact wz.2.2.2.2.2.1.2.1 | exact Ne.symm wz.2.2.2.2.2.1.2.1 | exact wz.2.2.2.2.2.1.2.2 | exact Ne.symm wz.2.2.2.2.2.1.2.2 | exact wz.2.2.2.2.2.2.1 | exact Ne.symm wz.2.2.2.2.2.2.1 | exact Nat.ne_of_lt wz.2.2.2.2.2.2.1 | exact Nat.ne_of_gt wz.2.2.2.2.2.2.1 | exact wz.2.2.2.2.2.2 | exact Ne.symm wz.2.2.2.2.2.2 | exact Nat.ne_of_lt wz.2.2.2.2.2.2 | exact Nat.ne_of_gt wz.2.2.2.2.2.2 | exact wz.2.2.2.2.2.2.1.1 | exact Ne.symm wz.2.2.2.2.2.2.1.1 | exact wz.2.2.2.2.2.2.1.2.1 | exact Ne.symm wz.2.2.2.2.2.2.1.2.1 | exact wz.2.2.2.2.2.2.1.2.2 | exact Ne.symm wz.2.2.2.2.2.2.1.2.2 | exact wz.2.2.2.2.2.2.2.1 | exact Ne.symm wz.2.2.2.2.2.2.2.1 | exact Nat.ne_of_lt wz.2.2.2.2.2.2.2.1 | exact Nat.ne_of_gt wz.2.2.2.2.2.2.2.1 | exact wz.2.2.2.2.2.2.2 | exact Ne.symm wz.2.2.2.2.2.2.2 | exact Nat.ne_of_lt wz.2.2.2.2.2.2.2 | exact Nat.ne_of_gt wz.2.2.2.2.2.2.2 | exact wz.2.2.2.2.2.2.2.1.1 | exact Ne.symm wz.2.2.2.2.2.2.2.1.1 | exact wz.2.2.2.2.2.2.2.1.2.1 | exact Ne.symm wz.2.2.2.2.2.2.2.1.2.1 | exact wz.2.2.2.2.2.2.2.1.2.2 | exact Ne.symm wz.2.2.2.2.2.2.2.1.2.2 | exact wz.2.2.2.2.2.2.2.2.1 | exact Ne.symm wz.2.2.2.2.2.2.2.2.1 | exact Nat.ne_of_lt wz.2.2.2.2.2.2.2.2.1 | exact Nat.ne_of_gt wz.2.2.2.2.2.2.2.2.1 | exact wz.2.2.2.2.2.2.2.2 | exact Ne.symm wz.2.2.2.2.2.2.2.2 | exact Nat.ne_of_lt wz.2.2.2.2.2.2.2.2 | exact Nat.ne_of_gt wz.2.2.2.2.2.2.2.2 | exact wz.2.2.2.2.2.2.2.2.1.1 | exact Ne.symm wz.2.2.2.2.2.2.2.2.1.1 | exact wz.2.2.2.2.2.2.2.2.1.2.1 | exact Ne.symm wz.2.2.2.2.2.2.2.2.1.2.1 | exact wz.2.2.2.2.2.2.2.2.1.2.2 | exact Ne.symm wz.2.2.2.2.2.2.2.2.1.2.2 | exact wz.2.2.2.2.2.2.2.2.2.1 | exact Ne.symm wz.2.2.2.2.2.2.2.2.2.1 | exact Nat.ne_of_lt wz.2.2.2.2.2.2.2.2.2.1 | exact Nat.ne_of_gt wz.2.2.2.2.2.2.2.2.2.1 | exact wz.2.2.2.2.2.2.2.2.2 | exact Ne.symm wz.2.2.2.2.2.2.2.2.2 | exact Nat.ne_of_lt wz.2.2.2.2.2.2.2.2.2 | exact Nat.ne_of_gt wz.2.2.2.2.2.2.2.2.2 | exact wz.2.2.2.2.2.2.2.2.2.1.1 | exact Ne.symm wz.2.2.2.2.2.2.2.2.2.1.1 | exact wz.2.2.2.2.2.2.2.2.2.1.2.1 | exact Ne.symm wz.2.2.2.2.2.2.2.2.2.1.2.1 | exact wz.2.2.2.2.2.2.2.2.2.1.2.2 | exact Ne.symm wz.2.2.2.2.2.2.2.2.2.1.2.2 | exact wz.2.2.2.2.2.2.2.2.2.2.1 | exact Ne.symm wz.2.2.2.2.2.2.2.2.2.2.1 | exact Nat.ne_of_lt wz.2.2.2.2.2.2.2.2.2.2.1 | exact Nat.ne_of_gt wz.2.2.2.2.2.2.2.2.2.2.1 | exact wz.2.2.2.2.2.2.2.2.2.2 | exact Ne.symm wz.2.2.2.2.2.2.2.2.2.2 | exact Nat.ne_of_lt wz.2.2.2.2.2.2.2.2.2.2 | exact Nat.ne_of_gt wz.2.2.2.2.2.2.2.2.2.2 | exact wz.2.2.2.2.2.2.2.2.2.2.1.1 | exact Ne.symm wz.2.2.2.2.2.2.2.2.2.2.1.1 | exact wz.2.2.2.2.2.2.2.2.2.2.1.2.1 | exact Ne.symm wz.2.2.2.2.2.2.2.2.2.2.1.2.1 | exact wz.2.2.2.2.2.2.2.2.2.2.1.2.2 | exact Ne.symm wz.2.2.2.2.2.2.2.2.2.2.1.2.2 | exact wz.2.2.2.2.2.2.2.2.2.2.2.1 | exact Ne.symm wz.2.2.2.2.2.2.2.2.2.2.2.1 | exact Nat.ne_of_lt wz.2.2.2.2.2.2.2.2.2.2.2.1 | exact Nat.ne_of_gt wz.2.2.2.2.2.2.2.2.2.2.2.1 | exact wz.2.2.2.2.2.2.2.2.2.2.2 | exact Ne.symm wz.2.2.2.2.2.2.2.2.2.2.2 | exact Nat.ne_of_lt wz.2.2.2.2.2.2.2.2.2.2.2 | exact Nat.ne_of_gt wz.2.2.2.2.2.2.2.2.2.2.2 | exact wz.2.2.2.2.2.2.2.2.2.2.2.1.1 | exact Ne.symm wz.2.2.2.2.2.2.2.2.2.2.2.1.1 | exact wz.2.2.2.2.2.2.2.2.2.2.2.1.2.1 | exact Ne.symm wz.2.2.2.2.2.2.2.2.2.2.2.1.2.1 | exact wz.2.2.2.2.2.2.2.2.2.2.2.1.2.2 | exact Ne.symm wz.2.2.2.2.2.2.2.2.2.2.2.1.2.2 | exact wz.2.2.2.2.2.2.2.2.2.2.2.2.1 | exact Ne.symm wz.2.2.2.2.2.2.2.2.2.2.2.2.1 | exact Nat.ne_of_lt wz.2.2.2.2.2.2.2.2.2.2.2.2.1 | exact Nat.ne_of_gt wz.2.2.2.2.2.2.2.2.2.2.2.2.1 | exact wz.2.2.2.2.2.2.2.2.2.2.2.2 | exact Ne.symm wz.2.2.2.2.2.2.2.2.2.2.2.2 | exact Nat.ne_of_lt wz.2.2.2.2.2.2.2.2.2.2.2.2 | exact Nat.ne_of_gt wz.2.2.2.2.2.2.2.2.2.2.2.2 | exact wz.2.2.2.2.2.2.2.2.2.2.2.2.1.1 | exact Ne.symm wz.2.2.2.2.2.2.2.2.2.2.2.2.1.1 | exact wz.2.2.2.2.2.2.2.2.2.2.2.2.1.2.1 | exact Ne.symm wz.2.2.2.2.2.2.2.2.2.2.2.2.1.2.1 | exact wz.2.2.2.2.2.2.2.2.2.2.2.2.1.2.2 | exact Ne.symm wz.2.2.2.2.2.2.2.2.2.2.2.2.1.2.2 | exact wz.2.2.2.2.2.2.2.2.2.2.2.2.2.1 | exact Ne.symm wz.2.2.2.2.2.2.2.2.2.2.2.2.2.1 | exact Nat.ne_of_lt wz.2.2.2.2.2.2.2.2.2.2.2.2.2.1 | exact Nat.ne_of_gt wz.2.2.2.2.2.2.2.2.2.2.2.2.2.1 | exact wz.2.2.2.2.2.2.2.2.2.2.2.2.2 | exact Ne.symm wz.2.2.2.2.2.2.2.2.2.2.2.2.2 | exact Nat.ne_of_lt wz.2.2.2.2.2.2.2.2.2.2.2.2.2 | exact Nat.ne_of_gt wz.2.2.2.2.2.2.2.2.2.2.2.2.2 | exact wz.2.2.2.2.2.2.2.2.2.2.2.2.2.1.1 | exact Ne.symm wz.2.2.2.2.2.2.2.2.2.2.2.2.2.1.1 | exact wz.2.2.2.2.2.2.2.2.2.2.2.2.2.1.2.1 | exact Ne.symm wz.2.2.2.2.2.2.2.2.2.2.2.2.2.1.2.1 | exact wz.2.2.2.2.2.2.2.2.2.2.2.2.2.1.2.2 | exact Ne.symm wz.2.2.2.2.2.2.2.2.2.2.2.2.2.1.2.2 | clear wz))); done)
  k_with "om" => ((fail_if_success (with_reducible rename OmMark => x9)); first | decide | exact le_lit (by with_reducible assumption) rfl | exact room1 (by with_reducible assumption) rfl | exact room2 (by with_reducible assumption) rfl | exact room3 (by with_reducible assumption) rfl | ((have m9 : OmMark := OmMark.mk); (first | (with_reducible rename _ ∧ _ => z9; clear z9) | (with_reducible rename @Ne _ _ _ => z9; clear z9)); (repeat (with_reducible rename _ ∧ _ => z9; clear z9)); (repeat (with_reducible rename @Ne _ _ _ => z9; clear z9)); omega))
  k_with "CompEnd" => (k_here; k_dflt (first | (refine' compEnd_el ?w0wF ?w0wN ?w0wsub ?w0woff ?w0whS ?_; (case w0wF => assumption); (case w0wN => assumption); (case w0wsub => kcf_all); (case w0woff => ((try dsimp only); simp only [LCg.Off3, and_true]; assumption)); (case w0whS => first | exact True.intro | assumption | lcg_src)) | (refine' compEnd_no ?w0wF ?w0wN ?w0wsub ?w0woff ?w0whS ?_; (case w0wF => assumption); (case w0wN => assumption); (case w0wsub => kcf_all); (case w0woff => ((try dsimp only); simp only [LCg.Off3, and_true]; assumption)); (case w0whS => first | exact True.intro | assumption | lcg_src))))
  k_with "subscriptTail Name Slice ref ref" => (k_here; (with_reducible show wpAny _ _ (subscriptTail _ (PySem.Expr.Slice none (some _) none _) (Value.ref _) (Value.ref _)) _ _ _); k_dflt (refine' cutl_upto ?w1wF ?w1wN ?w1wht ?w1whi ?w1whl ?w1wb0 ?w1wb1 ?_ ?w1whs ?w1whg; (case w1wF => k_asm); (case w1wN => k_asm); (case w1wht => (repeat (first | exact List.Mem.head _ | refine List.Mem.tail _ ?_))); (case w1whi => assumption); (case w1whl => omega); (case w1wb0 => omega); (case w1wb1 => omega); (case w1whs => with_unfolding_all rfl); (case w1whg => (intro _; with_unfolding_all rfl))); intro w1wz' w1wh' w1wzs' w1wF' w1wN' l1 w1whI' w1whL'; (try k_lt l1))
  k_with "subscriptTail Name Slice ref ref" => (k_here; (with_reducible show wpAny _ _ (subscriptTail _ (PySem.Expr.Slice (some _) none none _) (Value.ref _) (Value.ref _)) _ _ _); k_dflt (refine' cutl_from ?w2wF ?w2wN ?w2wht ?w2whi ?w2whl ?w2wb0 ?w2wb1 ?_ ?w2whs ?w2whg; (case w2wF => k_asm); (case w2wN => k_asm); (case w2wht => (repeat (first | exact List.Mem.head _ | refine List.Mem.tail _ ?_))); (case w2whi => assumption); (case w2whl => omega); (case w2wb0 => omega); (case w2wb1 => omega); (case w2whs => with_unfolding_all rfl); (case w2whg => (intro _; with_unfolding_all rfl))); intro w2wz' w2wh' w2wzs' w2wF' w2wN' l1 w2whI' w2whL'; (try k_lt l1))
  revert X
  k_fill
  intro X
  refine wpAny_call ?_
  k_dflt (refine' code_defC ?k1 ?k2 ?k3 ?k4 ?k5 ?kA ?kF ?kK ?k6 ?k7 ?k8 ?k9 ?kB ?kD ?_ ?c2 ?c3 ?c4; (case kA => exact rfl); (case kF => exact rfl); (case kK => first | exact rfl | assumption); (case k1 => k_asm); (case k2 => k_asm); (case k3 => k_asm); (case k4 => k_asm); (case k5 => k_asm); (case k6 => k_is); (case k7 => k_is); (case k8 => ktr_room); (case k9 => exact BindsTo.of_eq rfl); (case kB => exact rfl); (case kD => decide +kernel); (case c2 => exact rfl); (case c3 => exact rfl); (case c4 => exact rfl); k_whole; intro g' L' h' tk' cells' FG' F' N' Y' B' X' T' l1; (try k_lt l1); k_cells Y'; (try simp only [List.cons_append, List.nil_append] at N'); (try dsimp only); (try k_lift B'); (try k_fold))
  k_steps
  all_goals ((rename News h₀ L _ _ => kN); (rename Fr h₀ L _ m => kF); refine hret _ _ _ ?_ kF (kst_newsOf kN (by kcf_all)))
  exact prec_fold (fun l k hl hq hp => by simp only [hl, hq, hp, true_and, and_true, Bool.false_eq_true, and_false, if_true, if_false]; simp) (fun l k hl hq hp => by simp only [hl, hq, hp, true_and, and_true, if_true]) (fun l k hq => by simp only [hq, false_and, if_false, ite_self])
end
section
theorem kp2_tells {w : World} {mean : ExcName → Option Value} {mg mb : Str → Option Value} {dp un : Nat} {gd : Option (List Code)} {cn : Str} {cs : Scope} {a : Addr} {ccd : Value} {cl : List (Str × Addr)} {outer : List Env} {A₀ : Around} {base h₀ : Heap} {L : Addr} {m : Str → Option Value} {s : Shared} {Q E : Value → Shared → Prop}
    {st : Bool} {T x y v : Addr} {rest : List (Addr × Obj)} {ys vs us : List Value} {ns rs qs : List Int} {tks : Tok}
    (B : Below A₀ base outer h₀) (F : Fr h₀ L s.heap m) (X : (hd.heap_39 w.params).In h₀) (N : News h₀ L s.heap ((v, LCg.lst ys) :: (T, tupO [.str (lexNm st) tks, .ref x, .ref y]) :: (y, tupO us) :: (x, tupO vs) :: rest)) (Tp : Top hd.view_39 (looseW hd.view_39 []) mean mg mb h₀) (hk : cs.kind = .function)
    (hI : IntsAre ys ns) (hl : ns.length ≤ 6) (hJ : IntsAre vs rs) (hK : IntsAre us qs) (hrn : rs.length ≤ ns.length) (hdp : dp + 20 < recursionLimit) (hun : un + 600 < cLine)
    (hret : ∀ b h' tk', b = lexKeeps (ns.take rs.length) (ns.drop rs.length) st → Fr h₀ L h' m → News h₀ L h' ((v, LCg.lst ys) :: (T, tupO [.str (lexNm st) tks, .ref x, .ref y]) :: (y, tupO us) :: (x, tupO vs) :: rest) → Q (.bool b) { s with heap := h', toks := tk' }) :
    wpAny (model PySem.Challenge.rw_nz0011_01.row.prog w) (ktrTop dp un gd cn cs L a ccd cl outer) (call (.ref 260) [.ref T, .ref v]) Q E s := by
  w_top off
  k_with_none
  k_with "ne" => (refine neN ?_; (try dsimp only); (first | with_reducible assumption | (with_reducible refine Ne.symm ?_; assumption) | (repeat (with_reducible rename _ ∧ _ => wz; first | exact wz.1 | exact Ne.symm wz.1 | exact Nat.ne_of_lt wz.1 | exact Nat.ne_of_gt wz.1 | exact wz.1.1 | exact Ne.symm wz.1.1 | exact wz.1.2.1 | exact Ne.symm wz.1.2.1 | exact wz.1.2.2 | exact Ne.symm wz.1.2.2 | exact wz.2.1 | exact Ne.symm wz.2.1 | exact Nat.ne_of_lt wz.2.1 | exact Nat.ne_of_gt wz.2.1 | exact wz.2 | exact Ne.symm wz.2 | exact Nat.ne_of_lt wz.2 | exact Nat.ne_of_gt wz.2 | exact wz.2.1.1 | exact Ne.symm wz.2.1.1 | exact wz.2.1.2.1 | exact Ne.symm wz.2.1.2.1 | exact wz.2.1.2.2 | exact Ne.symm wz.2.1.2.2 | exact wz.2.2.1 | exact Ne.symm wz.2.2.1 | exact Nat.ne_of_lt wz.2.2.1 | exact Nat.ne_of_gt wz.2.2.1 | exact wz.2.2 | exact Ne.symm wz.2.2 | exact Nat.ne_of_lt wz.2.2 | exact Nat.ne_of_gt wz.2.2 | exact wz.2.2.1.1 | exact Ne.symm wz.2.2.1.1 | exact wz.2.2.1.2.1 | exact Ne.symm wz.2.2.1.2.1 | exact wz.2.2.1.2.2 | exact Ne.symm wz.2.2.1.2.2 | exact wz.2.2.2.1 | exact Ne.symm wz.2.2.2.1 | exact Nat.ne_of_lt wz.2.2.2.1 | exact Nat.ne_of_gt wz.2.2.2.1 | exact wz.2.2.2 | exact Ne.symm wz.2.2.2 | exact Nat.ne_of_lt wz.2.2.2 | exact Nat.ne_of_gt wz.2.2.2 | exact wz.2.2.2.1.1 | exact Ne.symm wz.2.2.2.1.1 | exact wz.2.2.2.1.2.1 | exact Ne.symm wz.2.2.2.1.2.1 | exact wz.2.2.2.1.2.2 | exact Ne.symm wz.2.2.2.1.2.2 | exact wz.2.2.2.2.1 | exact Ne.symm wz.2.2.2.2.1 | exact Nat.ne_of_lt wz.2.2.2.2.1 | exact Nat.ne_of_gt wz.2.2.2.2.1 | exact wz.2.2.2.2 | exact Ne.symm wz.2.2.2.2 | exact Nat.ne_of_lt wz.2.2.2.2 | exact Nat.ne_of_gt wz.2.2.2.2 | exact wz.2.2.2.2.1.1 | exact Ne.symm wz.2.2.2.2.1.1 | exact wz.2.2.2.2.1.2.1 | exact Ne.symm wz.2.2.2.2.1.2.1 | exact wz.2.2.2.2.1.2.2 | exact Ne.symm wz.2.2.2.2.1.2.2 | exact wz.2.2.2.2.2.1 | exact Ne.symm wz.2.2.2.2.2.1 | exact Nat.ne_of_lt wz.2.2.2.2.2.1 | exact Nat.ne_of_gt wz.2.2.2.2.2.1 | exact wz.2.2.2.2.2 | exact Ne.symm wz.2.2.2.2.2 | exact Nat.ne_of_lt wz.2.2.2.2.2 | exact Nat.ne_of_gt wz.2.2.2.2.2 | exact wz.2.2.2.2.2.1.1 | exact Ne.symm wz.2.2.2.2.2.1.1 | exact wz.2.2.2.2.2.1.2.1 | exact Ne.symm wz.2.2.2.2.2.1.2.1 | exact wz.2.2.2.2.2.1.2.2 | exact Ne.symm wz.2.2.2.2.2.1.2.2 | exact wz.2.2.2.2.2.2.1 | exact Ne.symm wz.2.2.2.2.2.2.1 | exact Nat.ne_of_lt wz.2.2.2.2.2.2.1 | exact Nat.ne_of_gt wz.2.2.2.2.2.2.1 | exact wz.2.2.2.2.2.2 | exact Ne.symm wz.2.2.2.2.2.2 | exact Nat.ne_of_lt wz.2.2.2.2.2.2 | exact Nat.ne_of_gt wz.2.2.2.2.2.2 | exact wz.2.2.2.2.2.2.1.1 | exact Ne.symm wz.2.2.2.2.2.2.1.1 | exact wz.2.2.2.2.2.2.1.2.1 | exact Ne.symm wz.2.2.2.2.2.2.1.2.1 | exact wz.2.2.2.2.2.2.1.2.2 | exact Ne.symm wz.2.2.2.2.2.2.1.2.2 | exact wz.2.2.2.2.2.2.2.1 | exact Ne.symm wz.2.2.2.2.2.2.2.1 | exact Nat.ne_of_lt wz.2.2.2.2.2.2.2.1 | exact Nat.ne_of_gt wz.2.2.2.2.2.2.2.1 | exact wz.2.2.2.2.2.2.2 | exact Ne.symm wz.2.2.2.2.2.2.2 | exact Nat.ne_of_lt wz.2.2.2.2.2.2.2 | exact Nat.ne_of_gt wz.2.2.2.2.2.2.2 | exact wz.2.2.2.2.2.2.2.1.1 | exact Ne.symm wz.2.2.2.2.2.2.2.1.1 | exact wz.2.2.2.2.2.2.2.1.2.1 | exact Ne.symm wz.2.2.2.2.2.2.2.1.2.1 | exact wz.2.2.2.2.2.2.2.1.2.2 | exact Ne.symm wz.2.2.2.2.2.2.2.1.2.2 | exact wz.2.2.2.2.2.2.2.2.1 | exact Ne.symm wz.2.2.2.2.2.2.2.2.1 | exact Nat.ne_of_lt wz.2.2.2.2.2.2.2.2.1 | exact Nat.ne_of_gt wz.2.2.2.2.2.2.2.2.1 | exact wz.2.2.2.2.2.2.2.2 | exact Ne.symm wz.2.2.2.2.2.2.2.2 | exact Nat.ne_of_lt wz.2.2.2.2.2.2.2.2 | exact Nat.ne_of_gt wz.2.2.2.2.2.2.2.2 | exact wz.2.2.2.2.2.2.2.2.1.1 | exact Ne.symm wz.2.2.2.2.2.2.2.2.1.1 | exact wz.2.2.2.2.2.2.2.2.1.2.1 | exact Ne.symm wz.2.2.2.2.2.2.2.2.1.2.1 | exact wz.2.2.2.2.2.2.2.2.1.2.2 | exact Ne.symm wz.2.2.2.2.2.2.2.2.1.2.2 | exact wz.2.2.2.2.2.2.2.2.2.1 | exact Ne.symm wz.2.2.2.2.2.2.2.2.2.1 | exact Nat.ne_of_lt wz.2.2.2.2.2.2.2.2.2.1 | exact Nat.ne_of_gt wz.2.2.2.2.2.2.2.2.2.1 | exact wz.2.2.2.2.2.2.2.2.2 | exact Ne.symm wz.2.2.2.2.2.2.2.2.2 | exact Nat.ne_of_lt wz.2.2.2.2.2.2.2.2.2 | exact Nat.ne_of_gt wz.2.2.2.2.2.2.2.2.2 | exact wz.2.2.2.2.2.2.2.2.2.1.1 | exact Ne.symm wz.2.2.2.2.2.2.2.2.2.1.1 | exact wz.2.2.2.2.2.2.2.2.2.1.2.1 | exact Ne.symm wz.2.2.2.2.2.2.2.2.2.1.2.1 | exact wz.2.2.2.2.2.2.2.2.2.1.2.2 | exact Ne.symm wz.2.2.2.2.2.2.2.2.2.1.2.2 | exact wz.2.2.2.2.2.2.2.2.2.2.1 | exact Ne.symm wz.2.2.2.2.2.2.2.2.2.2.1 | exact Nat.ne_of_lt wz.2.2.2.2.2.2.2.2.2.2.1 | exact Nat.ne_of_gt wz.2.2.2.2.2.2.2.2.2.2.1 | exact wz.2.2.2.2.2.2.2.2.2.2 | exact Ne.symm wz.2.2.2.2.2.2.2.2.2.2 | exact Nat.ne_of_lt wz.2.2.2.2.2.2.2.2.2.2 | exact Nat.ne_of_gt wz.2.2.2.2.2.2.2.2.2.2 | exact wz.2.2.2.2.2.2.2.2.2.2.1.1 | exact Ne.symm wz.2.2.2.2.2.2.2.2.2.2.1.1 | exact wz.2.2.2.2.2.2.2.2.2.2.1.2.1 | exact Ne.symm wz.2.2.2.2.2.2.2.2.2.2.1.2.1 | exact wz.2.2.2.2.2.2.2.2.2.2.1.2.2 | exact Ne.symm wz.2.2.2.2.2.2.2.2.2.2.1.2.2 | exact wz.2.2.2.2.2.2.2.2.2.2.2.1 | exact Ne.symm wz.2.2.2.2.2.2.2.2.2.2.2.1 | exact Nat.ne_of_lt wz.2.2.2.2.2.2.2.2.2.2.2.1 | exact Nat.ne_of_gt wz.2.2.2.2.2.2.2.2.2.2.2.1 | exact wz.2.2.2.2.2.2.2.2.2.2.2 | exact Ne.symm wz.2.2.2.2.2.2.2.2.2.2.2 | exact Nat.ne_of_lt wz.2.2.2.2.2.2.2.2.2.2.2 | exact Nat.ne_of_gt wz.2.2.2.2.2.2.2.2.2.2.2 | exact wz.2.2.2.2.2.2.2.2.2.2.2.1.1 | exact Ne.symm wz.2.2.2.2.2.2.2.2.2.2.2.1.1 | exact wz.2.2.2.2.2.2.2.2.2.2.2.1.2.1 | exact Ne.symm wz.2.2.2.2.2.2.2.2.2.2.2.1.2.1 | exact wz.2.2.2.2.2.2.2.2.2.2.2.1.2.2 | exact Ne.symm wz.2.2.2.2.2.2.2.2.2.2.2.1.2.2 | exact wz.2.2.2.2.2.2.2.2.2.2.2.2.1 | exact Ne.symm wz.2.2.2.2.2.2.2.2.2.2.2.2.1 | exact Nat.ne_of_lt wz.2.2.2.2.2.2.2.2.2.2.2.2.1 | exact Nat.ne_of_gt wz.2.2.2.2.2.2.2.2.2.2.2.2.1 | exact wz.2.2.2.2.2.2.2.2.2.2.2.2 | exact Ne.symm wz.2.2.2.2.2.2.2.2.2.2.2.2 | exact Nat.ne_of_lt wz.2.2.2.2.2.2.2.2.2.2.2.2 | exact Nat.ne_of_gt wz.2.2.2.2.2.2.2.2.2.2.2.2 | exact wz.2.2.2.2.2.2.2.2.2.2.2.2.1.1 | exact Ne.symm wz.2.2.2.2.2.2.2.2.2.2.2.2.1.1 | exact wz.2.2.2.2.2.2.2.2.2.2.2.2.1.2.1 | exact Ne.symm wz.2.2.2.2.2.2.2.2.2.2.2.2.1.2.1 | exact wz.2.2.2.2.2.2.2.2.2.2.2.2.1.2.2 | exact Ne.symm wz.2.2.2.2.2.2.2.2.2.2.2.2.1.2.2 | exact wz.2.2.2.2.2.2.2.2.2.2.2.2.2.1 | exact Ne.symm wz.2.2.2.2.2.2.2.2.2.2.2.2.2.1 | exact Nat.ne_of_lt wz.2.2.2.2.2.2.2.2.2.2.2.2.2.1 | exact Nat.ne_of_gt wz.2.2.2.2.2.2.2.2.2.2.2.2.2.1 | exact wz.2.2.2.2.2.2.2.2.2.2.2.2.2 | exact Ne.symm wz.2.2.2.2.2.2.2.2.2.2.2.2.2 | exact Nat.ne_of_lt wz.2.2.2.2.2.2.2.2.2.2.2.2.2 | exact Nat.ne_of_gt wz.2.2.2.2.2.2.2.2.2.2.2.2.2 | exact wz.2.2.2.2.2.2.2.2.2.2.2.2.2.1.1 | exact Ne.symm wz.2.2.2.2.2.2.2.2.2.2.2.2.2.1.1 | exact wz.2.2.2.2.2.2.2.2.2.2.2.2.2.1.2.1 | exact Ne.symm wz.2.2.2.2.2.2.2.2.2.2.2.2.2.1.2.1 | exact wz.2.2.2.2.2.2.2.2.2.2.2.2.2.1.2.2 | exact Ne.symm wz.2.2.2.2.2.2.2.2.2.2.2.2.2.1.2.2 | clear wz))); done)
  k_with "om" => ((fail_if_success (with_reducible rename OmMark => x9)); first | decide | exact le_lit (by with_reducible assumption) rfl | exact room1 (by with_reducible assumption) rfl | exact room2 (by with_reducible assumption) rfl | exact room3 (by with_reducible assumption) rfl | ((have m9 : OmMark := OmMark.mk); (first | (with_reducible rename _ ∧ _ => z9; clear z9) | (with_reducible rename @Ne _ _ _ => z9; clear z9)); (repeat (with_reducible rename _ ∧ _ => z9; clear z9)); (repeat (with_reducible rename @Ne _ _ _ => z9; clear z9)); omega))
  k_with "subscriptTail Name Slice ref ref" => (k_here; (with_reducible show wpAny _ _ (subscriptTail _ (PySem.Expr.Slice none (some _) none _) (Value.ref _) (Value.ref _)) _ _ _); k_dflt (refine' cutl_upto ?w0wF ?w0wN ?w0wht ?w0whi ?w0whl ?w0wb0 ?w0wb1 ?_ ?w0whs ?w0whg; (case w0wF => k_asm); (case w0wN => k_asm); (case w0wht => (repeat (first | exact List.Mem.head _ | refine List.Mem.tail _ ?_))); (case w0whi => assumption); (case w0whl => omega); (case w0wb0 => omega); (case w0wb1 => omega); (case w0whs => with_unfolding_all rfl); (case w0whg => (intro _; with_unfolding_all rfl))); intro w0wz' w0wh' w0wzs' w0wF' w0wN' l1 w0whI' w0whL'; (try k_lt l1))
  k_with "subscriptTail Name Slice ref ref" => (k_here; (with_reducible show wpAny _ _ (subscriptTail _ (PySem.Expr.Slice (some _) none none _) (Value.ref _) (Value.ref _)) _ _ _); k_dflt (refine' cutl_from ?w1wF ?w1wN ?w1wht ?w1whi ?w1whl ?w1wb0 ?w1wb1 ?_ ?w1whs ?w1whg; (case w1wF => k_asm); (case w1wN => k_asm); (case w1wht => (repeat (first | exact List.Mem.head _ | refine List.Mem.tail _ ?_))); (case w1whi => assumption); (case w1whl => omega); (case w1wb0 => omega); (case w1wb1 => omega); (case w1whs => with_unfolding_all rfl); (case w1whg => (intro _; with_unfolding_all rfl))); intro w1wz' w1wh' w1wzs' w1wF' w1wN' l1 w1whI' w1whL'; (try k_lt l1))
  k_with "call builtin:len" => (k_here; (with_reducible show wpAny _ _ (call (Value.builtin "len") [Value.ref _]) _ _ _); k_dflt (refine' len_tupO ?w2wN ?w2wht ?w2whi ?w2whl ?_; (case w2wN => k_asm); (case w2wht => k_mem); (case w2whi => assumption); (case w2whl => omega)); intro w2wtk' w2wtks')
  k_with "call ref" => (k_here; (with_reducible show wpAny _ _ (call (Value.ref 255) [Value.ref _, Value.ref _, Value.bool _]) _ _ _); k_dflt (refine' lexed_use ?w3wB ?w3wF ?w3wX ?w3wN ?w3wT ?w3whk ?w3whu ?w3whv ?w3whI ?w3whl ?w3whJ ?w3whl' ?w3whdp ?w3whun ?_; (case w3wB => k_asm); (case w3wF => k_asm); (case w3wX => k_asm); (case w3wN => k_asm); (case w3wT => k_asm); (case w3whk => first | exact rfl | assumption); (case w3whu => (repeat (first | exact List.Mem.head _ | refine List.Mem.tail _ ?_))); (case w3whv => (repeat (first | exact List.Mem.head _ | refine List.Mem.tail _ ?_))); (case w3whI => assumption); (case w3whJ => assumption); (case w3whl => omega); (case w3whl' => omega); (case w3whdp => ktr_room); (case w3whun => ktr_units)); intro w3wb' w3wh' w3wtk' w3whb' w3wF' w3wN')
  k_with "compareOp Eq str str" => (k_here; (with_reducible show wpAny _ _ (compareOp CmpOp.Eq (Value.str (lexNm _) _) (Value.str _ _)) _ _ _); with_reducible first | refine eq_nm0 ?_ | refine eq_nm1 ?_ | refine eq_nm2 ?_)
  revert X
  k_fill
  intro X
  refine wpAny_call ?_
  k_dflt (refine' code_defC ?k1 ?k2 ?k3 ?k4 ?k5 ?kA ?kF ?kK ?k6 ?k7 ?k8 ?k9 ?kB ?kD ?_ ?c2 ?c3 ?c4; (case kA => exact rfl); (case kF => exact rfl); (case kK => first | exact rfl | assumption); (case k1 => k_asm); (case k2 => k_asm); (case k3 => k_asm); (case k4 => k_asm); (case k5 => k_asm); (case k6 => k_is); (case k7 => k_is); (case k8 => ktr_room); (case k9 => exact BindsTo.of_eq rfl); (case kB => exact rfl); (case kD => decide +kernel); (case c2 => exact rfl); (case c3 => exact rfl); (case c4 => exact rfl); k_whole; intro g' L' h' tk' cells' FG' F' N' Y' B' X' T' l1; (try k_lt l1); k_cells Y'; (try simp only [List.cons_append, List.nil_append] at N'); (try dsimp only); (try k_lift B'); (try k_fold))
  k_steps
  all_goals ((rename News h₀ L _ _ => kN); (rename Fr h₀ L _ m => kF); exact hret _ _ _ (by assumption) kF (kst_newsOf kN (by kcf_all)))
end
section
theorem chk0l_tells {w : World} {mean : ExcName → Option Value} {mg mb : Str → Option Value} {dp un : Nat} {gd : Option (List Code)} {cn : Str} {cs : Scope} {a : Addr} {ccd : Value} {cl : List (Str × Addr)} {outer : List Env} {A₀ : Around} {base h₀ : Heap} {L : Addr} {m : Str → Option Value} {s : Shared} {Q E : Value → Shared → Prop}
    {r v : Addr} {rest : List (Addr × Obj)} {ys : List Value} {ns : List Int}
    (B : Below A₀ base outer h₀) (F : Fr h₀ L s.heap m) (X : (hd.heap_39 w.params).In h₀) (N : News h₀ L s.heap ((v, LCg.lst ys) :: rest)) (Tp : Top hd.view_39 (looseW hd.view_39 []) mean mg mb h₀) (hk : cs.kind = .function)
    (hI : IntsAre ys ns) (hl : ns.length ≤ 6) (hdp : dp + 5 < recursionLimit) (hun : un + 200 < cLine)
    (hret : ∀ b h' tk', b = incB ns → Fr h₀ L h' m → News h₀ L h' ((v, LCg.lst ys) :: rest) → Q (.bool b) { s with heap := h', toks := tk' }) :
    wpAny (model PySem.Challenge.rw_nz0011_01.row.prog w) (ktrTop dp un gd cn cs L a ccd cl outer) (call (.ref 149) [.ref r, .ref v]) Q E s := by
  w_top off
  k_with_none
  k_with "ne" => (refine neN ?_; (try dsimp only); (first | with_reducible assumption | (with_reducible refine Ne.symm ?_; assumption) | (repeat (with_reducible rename _ ∧ _ => wz; first | exact wz.1 | exact Ne.symm wz.1 | exact Nat.ne_of_lt wz.1 | exact Nat.ne_of_gt wz.1 | exact wz.1.1 | exact Ne.symm wz.1.1 | exact wz.1.2.1 | exact Ne.symm wz.1.2.1 | exact wz.1.2.2 | exact Ne.symm wz.1.2.2 | exact wz.2.1 | exact Ne.symm wz.2.1 | exact Nat.ne_of_lt wz.2.1 | exact Nat.ne_of_gt wz.2.1 | exact wz.2 | exact Ne.symm wz.2 | exact Nat.ne_of_lt wz.2 | exact Nat.ne_of_gt wz.2 | exact wz.2.1.1 | exact Ne.symm wz.2.1.1 | exact wz.2.1.2.1 | exact Ne.symm wz.2.1.2.1 | exact wz.2.1.2.2 | exact Ne.symm wz.2.1.2.2 | exact wz.2.2.1 | exact Ne.symm wz.2.2.1 | exact Nat.ne_of_lt wz.2.2.1 | exact Nat.ne_of_gt wz.2.2.1 | exact wz.2.2 | exact Ne.symm wz.2.2 | exact Nat.ne_of_lt wz.2.2 | exact Nat.ne_of_gt wz.2.2 | exact wz.2.2.1.1 | exact Ne.symm wz.2.2.1.1 | exact wz.2.2.1.2.1 | exact Ne.symm wz.2.2.1.2.1 | exact wz.2.2.1.2.2 | exact Ne.symm wz.2.2.1.2.2 | exact wz.2.2.2.1 | exact Ne.symm wz.2.2.2.1 | exact Nat.ne_of_lt wz.2.2.2.1 | exact Nat.ne_of_gt wz.2.2.2.1 | exact wz.2.2.2 | exact Ne.symm wz.2.2.2 | exact Nat.ne_of_lt wz.2.2.2 | exact Nat.ne_of_gt wz.2.2.2 | exact wz.2.2.2.1.1 | exact Ne.symm wz.2.2.2.1.1 | exact wz.2.2.2.1.2.1 | exact Ne.symm wz.2.2.2.1.2.1 | exact wz.2.2.2.1.2.2 | exact Ne.symm wz.2.2.2.1.2.2 | exact wz.2.2.2.2.1 | exact Ne.symm wz.2.2.2.2.1 | exact Nat.ne_of_lt wz.2.2.2.2.1 | exact Nat.ne_of_gt wz.2.2.2.2.1 | exact wz.2.2.2.2 | exact Ne.symm wz.2.2.2.2 | exact Nat.ne_of_lt wz.2.2.2.2 | exact Nat.ne_of_gt wz.2.2.2.2 | exact wz.2.2.2.2.1.1 | exact Ne.symm wz.2.2.2.2.1.1 | exact wz.2.2.2.2.1.2.1 | exact Ne.symm wz.2.2.2.2.1.2.1 | exact wz.2.2.2.2.1.2.2 | exact Ne.symm wz.2.2.2.2.1.2.2 | exact wz.2.2.2.2.2.1 | exact Ne.symm wz.2.2.2.2.2.1 | exact Nat.ne_of_lt wz.2.2.2.2.2.1 | exact Nat.ne_of_gt wz.2.2.2.2.2.1 | exact wz.2.2.2.2.2 | exact Ne.symm wz.2.2.2.2.2 | exact Nat.ne_of_lt wz.2.2.2.2.2 | exact Nat.ne_of_gt wz.2.2.2.2.2 | exact wz.2.2.2.2.2.1.1 | exact Ne.symm wz.2.2.2.2.2.1.1 | exact wz.2.2.2.2.2.1.2.1 | exact Ne.symm wz.2.2.2.2.2.1.2.1 | exact wz.2.2.2.2.2.1.2.2 | exact Ne.symm wz.2.2.2.2.2.1.2.2 | exact wz.2.2.2.2.2.2.1 | exact Ne.symm wz.2.2.2.2.2.2.1 | exact Nat.ne_of_lt wz.2.2.2.2.2.2.1 | exact Nat.ne_of_gt wz.2.2.2.2.2.2.1 | exact wz.2.2.2.2.2.2 | exact Ne.symm wz.2.2.2.2.2.2 | exact Nat.ne_of_lt wz.2.2.2.2.2.2 | exact Nat.ne_of_gt wz.2.2.2.2.2.2 | exact wz.2.2.2.2.2.2.1.1 | exact Ne.symm wz.2.2.2.2.2.2.1.1 | exact wz.2.2.2.2.2.2.1.2.1 | exact Ne.symm wz.2.2.2.2.2.2.1.2.1 | exact wz.2.2.2.2.2.2.1.2.2 | exact Ne.symm wz.2.2.2.2.2.2.1.2.2 | exact wz.2.2.2.2.2.2.2.1 | exact Ne.symm wz.2.2.2.2.2.2.2.1 | exact Nat.ne_of_lt wz.2.2.2.2.2.2.2.1 | exact Nat.ne_of_gt wz.2.2.2.2.2.2.2.1 | exact wz.2.2.2.2.2.2.2 | exact Ne.symm wz.2.2.2.2.2.2.2 | exact Nat.ne_of_lt wz.2.2.2.2.2.2.2 | exact Nat.ne_of_gt wz.2.2.2.2.2.2.2 | exact wz.2.2.2.2.2.2.2.1.1 | exact Ne.symm wz.2.2.2.2.2.2.2.1.1 | exact wz.2.2.2.2.2.2.2.1.2.1 | exact Ne.symm wz.2.2.2.2.2.2.2.1.2.1 | exact wz.2.2.2.2.2.2.2.1.2.2 | exact Ne.symm wz.2.2.2.2.2.2.2.1.2.2 | exact wz.2.2.2.2.2.2.2.2.1 | exact Ne.symm wz.2.2.2.2.2.2.2.2.1 | exact Nat.ne_of_lt wz.2.2.2.2.2.2.2.2.1 | exact Nat.ne_of_gt wz.2.2.2.2.2.2.2.2.1 | exact wz.2.2.2.2.2.2.2.2 | exact Ne.symm wz.2.2.2.2.2.2.2.2 | exact Nat.ne_of_lt wz.2.2.2.2.2.2.2.2 | exact Nat.ne_of_gt wz.2.2.2.2.2.2.2.2 | exact wz.2.2.2.2.2.2.2.2.1.1 | exact Ne.symm wz.2.2.2.2.2.2.2.2.1.1 | exact wz.2.2.2.2.2.2.2.2.1.2.1 | exact Ne.symm wz.2.2.2.2.2.2.2.2.1.2.1 | exact wz.2.2.2.2.2.2.2.2.1.2.2 | exact Ne.symm wz.2.2.2.2.2.2.2.2.1.2.2 | exact wz.2.2.2.2.2.2.2.2.2.1 | exact Ne.symm wz.2.2.2.2.2.2.2.2.2.1 | exact Nat.ne_of_lt wz.2.2.2.2.2.2.2.2.2.1 | exact Nat.ne_of_gt wz.2.2.2.2.2.2.2.2.2.1 | exact wz.2.2.2.2.2.2.2.2.2 | exact Ne.symm wz.2.2.2.2.2.2.2.2.2 | exact Nat.ne_of_lt wz.2.2.2.2.2.2.2.2.2 | exact Nat.ne_of_gt wz.2.2.2.2.2.2.2.2.2 | exact wz.2.2.2.2.2.2.2.2.2.1.1 | exact Ne.symm wz.2.2.2.2.2.2.2.2.2.1.1 | exact wz.2.2.2.2.2.2.2.2.2.1.2.1 | exact Ne.symm wz.2.2.2.2.2.2.2.2.2.1.2.1 | exact wz.2.2.2.2.2.2.2.2.2.1.2.2 | exact Ne.symm wz.2.2.2.2.2.2.2.2.2.1.2.2 | exact wz.2.2.2.2.2.2.2.2.2.2.1 | exact Ne.symm wz.2.2.2.2.2.2.2.2.2.2.1 | exact Nat.ne_of_lt wz.2.2.2.2.2.2.2.2.2.2.1 | exact Nat.ne_of_gt wz.2.2.2.2.2.2.2.2.2.2.1 | exact wz.2.2.2.2.2.2.2.2.2.2 | exact Ne.symm wz.2.2.2.2.2.2.2.2.2.2 | exact Nat.ne_of_lt wz.2.2.2.2.2.2.2.2.2.2 | exact Nat.ne_of_gt wz.2.2.2.2.2.2.2.2.2.2 | exact wz.2.2.2.2.2.2.2.2.2.2.1.1 | exact Ne.symm wz.2.2.2.2.2.2.2.2.2.2.1.1 | exact wz.2.2.2.2.2.2.2.2.2.2.1.2.1 | exact Ne.symm wz.2.2.2.2.2.2.2.2.2.2.1.2.1 | exact wz.2.2.2.2.2.2.2.2.2.2.1.2.2 | exact Ne.symm wz.2.2.2.2.2.2.2.2.2.2.1.2.2 | exact wz.2.2.2.2.2.2.2.2.2.2.2.1 | exact Ne.symm wz.2.2.2.2.2.2.2.2.2.2.2.1 | exact Nat.ne_of_lt wz.2.2.2.2.2.2.2.2.2.2.2.1 | exact Nat.ne_of_gt wz.2.2.2.2.2.2.2.2.2.2.2.1 | exact wz.2.2.2.2.2.2.2.2.2.2.2 | exact Ne.symm wz.2.2.2.2.2.2.2.2.2.2.2 | exact Nat.ne_of_lt wz.2.2.2.2.2.2.2.2.2.2.2 | exact Nat.ne_of_gt wz.2.2.2.2.2.2.2.2.2.2.2 | exact wz.2.2.2.2.2.2.2.2.2.2.2.1.1 | exact Ne.symm wz.2.2.2.2.2.2.2.2.2.2.2.1.1 | exact wz.2.2.2.2.2.2.2.2.2.2.2.1.2.1 | exact Ne.symm wz.2.2.2.2.2.2.2.2.2.2.2.1.2.1 | exact wz.2.2.2.2.2.2.2.2.2.2.2.1.2.2 | exact Ne.symm wz.2.2.2.2.2.2.2.2.2.2.2.1.2.2 | exact wz.2.2.2.2.2.2.2.2.2.2.2.2.1 | exact Ne.symm wz.2.2.2.2.2.2.2.2.2.2.2.2.1 | exact Nat.ne_of_lt wz.2.2.2.2.2.2.2.2.2.2.2.2.1 | exact Nat.ne_of_gt wz.2.2.2.2.2.2.2.2.2.2.2.2.1 | exact wz.2.2.2.2.2.2.2.2.2.2.2.2 | exact Ne.symm wz.2.2.2.2.2.2.2.2.2.2.2.2 | exact Nat.ne_of_lt wz.2.2.2.2.2.2.2.2.2.2.2.2 | exact Nat.ne_of_gt wz.2.2.2.2.2.2.2.2.2.2.2.2 | exact wz.2.2.2.2.2.2.2.2.2.2.2.2.1.1 | exact Ne.symm wz.2.2.2.2.2.2.2.2.2.2.2.2.1.1 | exact wz.2.2.2.2.2.2.2.2.2.2.2.2.1.2.1 | exact Ne.symm wz.2.2.2.2.2.2.2.2.2.2.2.2.1.2.1 | exact wz.2.2.2.2.2.2.2.2.2.2.2.2.1.2.2 | exact Ne.symm wz.2.2.2.2.2.2.2.2.2.2.2.2.1.2.2 | exact wz.2.2.2.2.2.2.2.2.2.2.2.2.2.1 | exact Ne.symm wz.2.2.2.2.2.2.2.2.2.2.2.2.2.1 | exact Nat.ne_of_lt wz.2.2.2.2.2.2.2.2.2.2.2.2.2.1 | exact Nat.ne_of_gt wz.2.2.2.2.2.2.2.2.2.2.2.2.2.1 | exact wz.2.2.2.2.2.2.2.2.2.2.2.2.2 | exact Ne.symm wz.2.2.2.2.2.2.2.2.2.2.2.2.2 | exact Nat.ne_of_lt wz.2.2.2.2.2.2.2.2.2.2.2.2.2 | exact Nat.ne_of_gt wz.2.2.2.2.2.2.2.2.2.2.2.2.2 | exact wz.2.2.2.2.2.2.2.2.2.2.2.2.2.1.1 | exact Ne.symm wz.2.2.2.2.2.2.2.2.2.2.2.2.2.1.1 | exact wz.2.2.2.2.2.2.2.2.2.2.2.2.2.1.2.1 | exact Ne.symm wz.2.2.2.2.2.2.2.2.2.2.2.2.2.1.2.1 | exact wz.2.2.2.2.2.2.2.2.2.2.2.2.2.1.2.2 | exact Ne.symm wz.2.2.2.2.2.2.2.2.2.2.2.2.2.1.2.2 | clear wz))); done)
  k_with "om" => ((fail_if_success (with_reducible rename OmMark => x9)); first | decide | exact le_lit (by with_reducible assumption) rfl | exact room1 (by with_reducible assumption) rfl | exact room2 (by with_reducible assumption) rfl | exact room3 (by with_reducible assumption) rfl | ((have m9 : OmMark := OmMark.mk); (first | (with_reducible rename _ ∧ _ => z9; clear z9) | (with_reducible rename @Ne _ _ _ => z9; clear z9)); (repeat (with_reducible rename _ ∧ _ => z9; clear z9)); (repeat (with_reducible rename @Ne _ _ _ => z9; clear z9)); omega))
  k_with "call builtin:sorted" => (k_here; (with_reducible show wpAny _ _ (call (Value.builtin "sorted") [Value.ref _]) _ _ _); k_dflt (refine' sorted_tup ?w0wF ?w0wN ?w0wht ?w0whI ?w0wh64 ?_; (case w0wF => k_asm); (case w0wN => k_asm); (case w0wht => k_mem); (case w0whI => assumption); (case w0wh64 => omega)); intro w0wD' w0wh' w0wvs' w0wns' w0we' w0wF' w0wN' l1 w0whI' w0whp' w0whs'; (try k_lt l1))
  revert X
  k_fill
  intro X
  refine wpAny_call ?_
  k_dflt cell_enter
  k_steps
  all_goals ((rename News h₀ L _ _ => kN); (rename Fr h₀ L _ m => kF); refine hret _ _ _ ?_ kF (kst_newsOf kN (by kcf_all)))
  exact inc_sorted (by assumption) (by assumption)
theorem chk0t_tells {w : World} {mean : ExcName → Option Value} {mg mb : Str → Option Value} {dp un : Nat} {gd : Option (List Code)} {cn : Str} {cs : Scope} {a : Addr} {ccd : Value} {cl : List (Str × Addr)} {outer : List Env} {A₀ : Around} {base h₀ : Heap} {L : Addr} {m : Str → Option Value} {s : Shared} {Q E : Value → Shared → Prop}
    {r v : Addr} {rest : List (Addr × Obj)} {ys : List Value} {ns : List Int}
    (B : Below A₀ base outer h₀) (F : Fr h₀ L s.heap m) (X : (hd.heap_39 w.params).In h₀) (N : News h₀ L s.heap ((v, tupO ys) :: rest)) (Tp : Top hd.view_39 (looseW hd.view_39 []) mean mg mb h₀) (hk : cs.kind = .function)
    (hI : IntsAre ys ns) (hl : ns.length ≤ 6) (hdp : dp + 5 < recursionLimit) (hun : un + 200 < cLine)
    (hret : ∀ b h' tk', b = incB ns → Fr h₀ L h' m → News h₀ L h' ((v, tupO ys) :: rest) → Q (.bool b) { s with heap := h', toks := tk' }) :
    wpAny (model PySem.Challenge.rw_nz0011_01.row.prog w) (ktrTop dp un gd cn cs L a ccd cl outer) (call (.ref 149) [.ref r, .ref v]) Q E s := by
  w_top off
  k_with_none
  k_with "ne" => (refine neN ?_; (try dsimp only); (first | with_reducible assumption | (with_reducible refine Ne.symm ?_; assumption) | (repeat (with_reducible rename _ ∧ _ => wz; first | exact wz.1 | exact Ne.symm wz.1 | exact Nat.ne_of_lt wz.1 | exact Nat.ne_of_gt wz.1 | exact wz.1.1 | exact Ne.symm wz.1.1 | exact wz.1.2.1 | exact Ne.symm wz.1.2.1 | exact wz.1.2.2 | exact Ne.symm wz.1.2.2 | exact wz.2.1 | exact Ne.symm wz.2.1 | exact Nat.ne_of_lt wz.2.1 | exact Nat.ne_of_gt wz.2.1 | exact wz.2 | exact Ne.symm wz.2 | exact Nat.ne_of_lt wz.2 | exact Nat.ne_of_gt wz.2 | exact wz.2.1.1 | exact Ne.symm wz.2.1.1 | exact wz.2.1.2.1 | exact Ne.symm wz.2.1.2.1 | exact wz.2.1.2.2 | exact Ne.symm wz.2.1.2.2 | exact wz.2.2.1 | exact Ne.symm wz.2.2.1 | exact Nat.ne_of_lt wz.2.2.1 | exact Nat.ne_of_gt wz.2.2.1 | exact wz.2.2 | exact Ne.symm wz.2.2 | exact Nat.ne_of_lt wz.2.2 | exact Nat.ne_of_gt wz.2.2 | exact wz.2.2.1.1 | exact Ne.symm wz.2.2.1.1 | exact wz.2.2.1.2.1 | exact Ne.symm wz.2.2.1.2.1 | exact wz.2.2.1.2.2 | exact Ne.symm wz.2.2.1.2.2 | exact wz.2.2.2.1 | exact Ne.symm wz.2.2.2.1 | exact Nat.ne_of_lt wz.2.2.2.1 | exact Nat.ne_of_gt wz.2.2.2.1 | exact wz.2.2.2 | exact Ne.symm wz.2.2.2 | exact Nat.ne_of_lt wz.2.2.2 | exact Nat.ne_of_gt wz.2.2.2 | exact wz.2.2.2.1.1 | exact Ne.symm wz.2.2.2.1.1 | exact wz.2.2.2.1.2.1 | exact Ne.symm wz.2.2.2.1.2.1 | exact wz.2.2.2.1.2.2 | exact Ne.symm wz.2.2.2.1.2.2 | exact wz.2.2.2.2.1 | exact Ne.symm wz.2.2.2.2.1 | exact Nat.ne_of_lt wz.2.2.2.2.1 | exact Nat.ne_of_gt wz.2.2.2.2.1 | exact wz.2.2.2.2 | exact Ne.symm wz.2.2.2.2 | exact Nat.ne_of_lt wz.2.2.2.2 | exact Nat.ne_of_gt wz.2.2.2.2 | exact wz.2.2.2.2.1.1 | exact Ne.symm wz.2.2.2.2.1.1 | exact wz.2.2.2.2.1.2.1 | exact Ne.symm wz.2.2.2.2.1.2.1 | exact wz.2.2.2.2.1.2.2 | exact Ne.symm wz.2.2.2.2.1.2.2 | exact wz.2.2.2.2.2.1 | exact Ne.symm wz.2.2.2.2.2.1 | exact Nat.ne_of_lt wz.2.2.2.2.2.1 | exact Nat.ne_of_gt wz.2.2.2.2.2.1 | exact wz.2.2.2.2.2 | exact Ne.symm wz.2.2.2.2.2 | exact Nat.ne_of_lt wz.2.2.2.2.2 | exact Nat.ne_of_gt wz.2.2.2.2.2 | exact wz.2.2.2.2.2.1.1 | exact Ne.symm wz.2.2.2.2.2.1.1 | exact wz.2.2.2.2.2.1.2.1 | exact Ne.symm wz.2.2.2.2.2.1.2.1 | exact wz.2.2.2.2.2.1.2.2 | exact Ne.symm wz.2.2.2.2.2.1.2.2 | exact wz.2.2.2.2.2.2.1 | exact Ne.symm wz.2.2.2.2.2.2.1 | exact Nat.ne_of_lt wz.2.2.2.2.2.2.1 | exact Nat.ne_of_gt wz.2.2.2.2.2.2.1 | exact wz.2.2.2.2.2.2 | exact Ne.symm wz.2.2.2.2.2.2 | exact Nat.ne_of_lt wz.2.2.2.2.2.2 | exact Nat.ne_of_gt wz.2.2.2.2.2.2 | exact wz.2.2.2.2.2.2.1.1 | exact Ne.symm wz.2.2.2.2.2.2.1.1 | exact wz.2.2.2.2.2.2.1.2.1 | exact Ne.symm wz.2.2.2.2.2.2.1.2.1 | exact wz.2.2.2.2.2.2.1.2.2 | exact Ne.symm wz.2.2.2.2.2.2.1.2.2 | exact wz.2.2.2.2.2.2.2.1 | exact Ne.symm wz.2.2.2.2.2.2.2.1 | exact Nat.ne_of_lt wz.2.2.2.2.2.2.2.1 | exact Nat.ne_of_gt wz.2.2.2.2.2.2.2.1 | exact wz.2.2.2.2.2.2.2 | exact Ne.symm wz.2.2.2.2.2.2.2 | exact Nat.ne_of_lt wz.2.2.2.2.2.2.2 | exact Nat.ne_of_gt wz.2.2.2.2.2.2.2 | exact wz.2.2.2.2.2.2.2.1.1 | exact Ne.symm wz.2.2.2.2.2.2.2.1.1 | exact wz.2.2.2.2.2.2.2.1.2.1 | exact Ne.symm wz.2.2.2.2.2.2.2.1.2.1 | exact wz.2.2.2.2.2.2.2.1.2.2 | exact Ne.symm wz.2.2.2.2.2.2.2.1.2.2 | exact wz.2.2.2.2.2.2.2.2.1 | exact Ne.symm wz.2.2.2.2.2.2.2.2.1 | exact Nat.ne_of_lt wz.2.2.2.2.2.2.2.2.1 | exact Nat.ne_of_gt wz.2.2.2.2.2.2.2.2.1 | exact wz.2.2.2.2.2.2.2.2 | exact Ne.symm wz.2.2.2.2.2.2.2.2 | exact Nat.ne_of_lt wz.2.2.2.2.2.2.2.2 | exact Nat.ne_of_gt wz.2.2.2.2.2.2.2.2 | exact wz.2.2.2.2.2.2.2.2.1.1 | exact Ne.symm wz.2.2.2.2.2.2.2.2.1.1 | exact wz.2.2.2.2.2.2.2.2.1.2.1 | exact Ne.symm wz.2.2.2.2.2.2.2.2.1.2.1 | exact wz.2.2.2.2.2.2.2.2.1.2.2 | exact Ne.symm wz.2.2.2.2.2.2.2.2.1.2.2 | exact wz.2.2.2.2.2.2.2.2.2.1 | exact Ne.symm wz.2.2.2.2.2.2.2.2.2.1 | exact Nat.ne_of_lt wz.2.2.2.2.2.2.2.2.2.1 | exact Nat.ne_of_gt wz.2.2.2.2.2.2.2.2.2.1 | exact wz.2.2.2.2.2.2.2.2.2 | exact Ne.symm wz.2.2.2.2.2.2.2.2.2 | exact Nat.ne_of_lt wz.2.2.2.2.2.2.2.2.2 | exact Nat.ne_of_gt wz.2.2.2.2.2.2.2.2.2 | exact wz.2.2.2.2.2.2.2.2.2.1.1 | exact Ne.symm wz.2.2.2.2.2.2.2.2.2.1.1 | exact wz.2.2.2.2.2.2.2.2.2.1.2.1 | exact Ne.symm wz.2.2.2.2.2.2.2.2.2.1.2.1 | exact wz.2.2.2.2.2.2.2.2.2.1.2.2 | exact Ne.symm wz.2.2.2.2.2.2.2.2.2.1.2.2 | exact wz.2.2.2.2.2.2.2.2.2.2.1 | exact Ne.symm wz.2.2.2.2.2.2.2.2.2.2.1 | exact Nat.ne_of_lt wz.2.2.2.2.2.2.2.2.2.2.1 | exact Nat.ne_of_gt wz.2.2.2.2.2.2.2.2.2.2.1 | exact wz.2.2.2.2.2.2.2.2.2.2 | exact Ne.symm wz.2.2.2.2.2.2.2.2.2.2 | exact Nat.ne_of_lt wz.2.2.2.2.2.2.2.2.2.2 | exact Nat.ne_of_gt wz.2.2.2.2.2.2.2.2.2.2 | exact wz.2.2.2.2.2.2.2.2.2.2.1.1 | exact Ne.symm wz.2.2.2.2.2.2.2.2.2.2.1.1 | exact wz.2.2.2.2.2.2.2.2.2.2.1.2.1 | exact Ne.symm wz.2.2.2.2.2.2.2.2.2.2.1.2.1 | exact wz.2.2.2.2.2.2.2.2.2.2.1.2.2 | exact Ne.symm wz.2.2.2.2.2.2.2.2.2.2.1.2.2 | exact wz.2.2.2.2.2.2.2.2.2.2.2.1 | exact Ne.symm wz.2.2.2.2.2.2.2.2.2.2.2.1 | exact Nat.ne_of_lt wz.2.2.2.2.2.2.2.2.2.2.2.1 | exact Nat.ne_of_gt wz.2.2.2.2.2.2.2.2.2.2.2.1 | exact wz.2.2.2.2.2.2.2.2.2.2.2 | exact Ne.symm wz.2.2.2.2.2.2.2.2.2.2.2 | exact Nat.ne_of_lt wz.2.2.2.2.2.2.2.2.2.2.2 | exact Nat.ne_of_gt wz.2.2.2.2.2.2.2.2.2.2.2 | exact wz.2.2.2.2.2.2.2.2.2.2.2.1.1 | exact Ne.symm wz.2.2.2.2.2.2.2.2.2.2.2.1.1 | exact wz.2.2.2.2.2.2.2.2.2.2.2.1.2.1 | exact Ne.symm wz.2.2.2.2.2.2.2.2.2.2.2.1.2.1 | exact wz.2.2.2.2.2.2.2.2.2.2.2.1.2.2 | exact Ne.symm wz.2.2.2.2.2.2.2.2.2.2.2.1.2.2 | exact wz.2.2.2.2.2.2.2.2.2.2.2.2.1 | exact Ne.symm wz.2.2.2.2.2.2.2.2.2.2.2.2.1 | exact Nat.ne_of_lt wz.2.2.2.2.2.2.2.2.2.2.2.2.1 | exact Nat.ne_of_gt wz.2.2.2.2.2.2.2.2.2.2.2.2.1 | exact wz.2.2.2.2.2.2.2.2.2.2.2.2 | exact Ne.symm wz.2.2.2.2.2.2.2.2.2.2.2.2 | exact Nat.ne_of_lt wz.2.2.2.2.2.2.2.2.2.2.2.2 | exact Nat.ne_of_gt wz.2.2.2.2.2.2.2.2.2.2.2.2 | exact wz.2.2.2.2.2.2.2.2.2.2.2.2.1.1 | exact Ne.symm wz.2.2.2.2.2.2.2.2.2.2.2.2.1.1 | exact wz.2.2.2.2.2.2.2.2.2.2.2.2.1.2.1 | exact Ne.symm wz.2.2.2.2.2.2.2.2.2.2.2.2.1.2.1 | exact wz.2.2.2.2.2.2.2.2.2.2.2.2.1.2.2 | exact Ne.symm wz.2.2.2.2.2.2.2.2.2.2.2.2.1.2.2 | exact wz.2.2.2.2.2.2.2.2.2.2.2.2.2.1 | exact Ne.symm wz.2.2.2.2.2.2.2.2.2.2.2.2.2.1 | exact Nat.ne_of_lt wz.2.2.2.2.2.2.2.2.2.2.2.2.2.1 | exact Nat.ne_of_gt wz.2.2.2.2.2.2.2.2.2.2.2.2.2.1 | exact wz.2.2.2.2.2.2.2.2.2.2.2.2.2 | exact Ne.symm wz.2.2.2.2.2.2.2.2.2.2.2.2.2 | exact Nat.ne_of_lt wz.2.2.2.2.2.2.2.2.2.2.2.2.2 | exact Nat.ne_of_gt wz.2.2.2.2.2.2.2.2.2.2.2.2.2 | exact wz.2.2.2.2.2.2.2.2.2.2.2.2.2.1.1 | exact Ne.symm wz.2.2.2.2.2.2.2.2.2.2.2.2.2.1.1 | exact wz.2.2.2.2.2.2.2.2.2.2.2.2.2.1.2.1 | exact Ne.symm wz.2.2.2.2.2.2.2.2.2.2.2.2.2.1.2.1 | exact wz.2.2.2.2.2.2.2.2.2.2.2.2.2.1.2.2 | exact Ne.symm wz.2.2.2.2.2.2.2.2.2.2.2.2.2.1.2.2 | clear wz))); done)
  k_with "om" => ((fail_if_success (with_reducible rename OmMark => x9)); first | decide | exact le_lit (by with_reducible assumption) rfl | exact room1 (by with_reducible assumption) rfl | exact room2 (by with_reducible assumption) rfl | exact room3 (by with_reducible assumption) rfl | ((have m9 : OmMark := OmMark.mk); (first | (with_reducible rename _ ∧ _ => z9; clear z9) | (with_reducible rename @Ne _ _ _ => z9; clear z9)); (repeat (with_reducible rename _ ∧ _ => z9; clear z9)); (repeat (with_reducible rename @Ne _ _ _ => z9; clear z9)); omega))
  k_with "call builtin:sorted" => (k_here; (with_reducible show wpAny _ _ (call (Value.builtin "sorted") [Value.ref _]) _ _ _); k_dflt (refine' sorted_tup ?w0wF ?w0wN ?w0wht ?w0whI ?w0wh64 ?_; (case w0wF => k_asm); (case w0wN => k_asm); (case w0wht => k_mem); (case w0whI => assumption); (case w0wh64 => omega)); intro w0wD' w0wh' w0wvs' w0wns' w0we' w0wF' w0wN' l1 w0whI' w0whp' w0whs'; (try k_lt l1))
  revert X
  k_fill
  intro X
  refine wpAny_call ?_
  k_dflt cell_enter
  k_steps
  all_goals ((rename News h₀ L _ _ => kN); (rename Fr h₀ L _ m => kF); refine hret _ _ _ ?_ kF (kst_newsOf kN (by kcf_all)))
  exact inc_sorted (by assumption) (by assumption)
end
section
theorem chk1l_tells {w : World} {mean : ExcName → Option Value} {mg mb : Str → Option Value} {dp un : Nat} {gd : Option (List Code)} {cn : Str} {cs : Scope} {a : Addr} {ccd : Value} {cl : List (Str × Addr)} {outer : List Env} {A₀ : Around} {base h₀ : Heap} {L : Addr} {m : Str → Option Value} {s : Shared} {Q E : Value → Shared → Prop}
    {r dx x v : Addr} {rest : List (Addr × Obj)} {ys : List Value} {ns : List Int} {t1 t2 t3 t4 t5 t6 t7 ta tb : Tok} {p q : Int}
    (B : Below A₀ base outer h₀) (F : Fr h₀ L s.heap m) (X : (hd.heap_39 w.params).In h₀) (N : News h₀ L s.heap ((v, LCg.lst ys) :: (r, instObj 215 dx) :: (dx, dictOf [({ hash := PyData.keyHash w.params (Str.ofString "number"), key := .str (Str.ofString "number") t1, val := .int (-1) t2 } : DictEntry), ({ hash := PyData.keyHash w.params (Str.ofString "scope"), key := .str (Str.ofString "scope") t3, val := .ref x } : DictEntry), ({ hash := PyData.keyHash w.params (Str.ofString "strength"), key := .str (Str.ofString "strength") t4, val := .str (Str.ofString "values") t5 } : DictEntry), ({ hash := PyData.keyHash w.params (Str.ofString "s"), key := .str (Str.ofString "s") t6, val := .int p ta } : DictEntry), ({ hash := PyData.keyHash w.params (Str.ofString "t"), key := .str (Str.ofString "t") t7, val := .int q tb } : DictEntry)] 5) :: rest)) (Tp : Top hd.view_39 (looseW hd.view_39 []) mean mg mb h₀) (hk : cs.kind = .function)
    (hI : IntsAre ys ns) (hl : ns.length ≤ 6) (hdp : dp + 5 < recursionLimit) (hun : un + 200 < cLine)
    (hret : ∀ b h' tk', b = precB p q ns → Fr h₀ L h' m → News h₀ L h' ((v, LCg.lst ys) :: (r, instObj 215 dx) :: (dx, dictOf [({ hash := PyData.keyHash w.params (Str.ofString "number"), key := .str (Str.ofString "number") t1, val := .int (-1) t2 } : DictEntry), ({ hash := PyData.keyHash w.params (Str.ofString "scope"), key := .str (Str.ofString "scope") t3, val := .ref x } : DictEntry), ({ hash := PyData.keyHash w.params (Str.ofString "strength"), key := .str (Str.ofString "strength") t4, val := .str (Str.ofString "values") t5 } : DictEntry), ({ hash := PyData.keyHash w.params (Str.ofString "s"), key := .str (Str.ofString "s") t6, val := .int p ta } : DictEntry), ({ hash := PyData.keyHash w.params (Str.ofString "t"), key := .str (Str.ofString "t") t7, val := .int q tb } : DictEntry)] 5) :: rest) → Q (.bool b) { s with heap := h', toks := tk' }) :
    wpAny (model PySem.Challenge.rw_nz0011_01.row.prog w) (ktrTop dp un gd cn cs L a ccd cl outer) (call (.ref 205) [.ref r, .ref v]) Q E s := by
  w_top off
  k_with_none
  k_with "ne" => (refine neN ?_; (try dsimp only); (first | with_reducible assumption | (with_reducible refine Ne.symm ?_; assumption) | (repeat (with_reducible rename _ ∧ _ => wz; first | exact wz.1 | exact Ne.symm wz.1 | exact Nat.ne_of_lt wz.1 | exact Nat.ne_of_gt wz.1 | exact wz.1.1 | exact Ne.symm wz.1.1 | exact wz.1.2.1 | exact Ne.symm wz.1.2.1 | exact wz.1.2.2 | exact Ne.symm wz.1.2.2 | exact wz.2.1 | exact Ne.symm wz.2.1 | exact Nat.ne_of_lt wz.2.1 | exact Nat.ne_of_gt wz.2.1 | exact wz.2 | exact Ne.symm wz.2 | exact Nat.ne_of_lt wz.2 | exact Nat.ne_of_gt wz.2 | exact wz.2.1.1 | exact Ne.symm wz.2.1.1 | exact wz.2.1.2.1 | exact Ne.symm wz.2.1.2.1 | exact wz.2.1.2.2 | exact Ne.symm wz.2.1.2.2 | exact wz.2.2.1 | exact Ne.symm wz.2.2.1 | exact Nat.ne_of_lt wz.2.2.1 | exact Nat.ne_of_gt wz.2.2.1 | exact wz.2.2 | exact Ne.symm wz.2.2 | exact Nat.ne_of_lt wz.2.2 | exact Nat.ne_of_gt wz.2.2 | exact wz.2.2.1.1 | exact Ne.symm wz.2.2.1.1 | exact wz.2.2.1.2.1 | exact Ne.symm wz.2.2.1.2.1 | exact wz.2.2.1.2.2 | exact Ne.symm wz.2.2.1.2.2 | exact wz.2.2.2.1 | exact Ne.symm wz.2.2.2.1 | exact Nat.ne_of_lt wz.2.2.2.1 | exact Nat.ne_of_gt wz.2.2.2.1 | exact wz.2.2.2 | exact Ne.symm wz.2.2.2 | exact Nat.ne_of_lt wz.2.2.2 | exact Nat.ne_of_gt wz.2.2.2 | exact wz.2.2.2.1.1 | exact Ne.symm wz.2.2.2.1.1 | exact wz.2.2.2.1.2.1 | exact Ne.symm wz.2.2.2.1.2.1 | exact wz.2.2.2.1.2.2 | exact Ne.symm wz.2.2.2.1.2.2 | exact wz.2.2.2.2.1 | exact Ne.symm wz.2.2.2.2.1 | exact Nat.ne_of_lt wz.2.2.2.2.1 | exact Nat.ne_of_gt wz.2.2.2.2.1 | exact wz.2.2.2.2 | exact Ne.symm wz.2.2.2.2 | exact Nat.ne_of_lt wz.2.2.2.2 | exact Nat.ne_of_gt wz.2.2.2.2 | exact wz.2.2.2.2.1.1 | exact Ne.symm wz.2.2.2.2.1.1 | exact wz.2.2.2.2.1.2.1 | exact Ne.symm wz.2.2.2.2.1.2.1 | exact wz.2.2.2.2.1.2.2 | exact Ne.symm wz.2.2.2.2.1.2.2 | exact wz.2.2.2.2.2.1 | exact Ne.symm wz.2.2.2.2.2.1 | exact Nat.ne_of_lt wz.2.2.2.2.2.1 | exact Nat.ne_of_gt wz.2.2.2.2.2.1 | exact wz.2.2.2.2.2 | exact Ne.symm wz.2.2.2.2.2 | exact Nat.ne_of_lt wz.2.2.2.2.2 | exact Nat.ne_of_gt wz.2.2.2.2.2 | exact wz.2.2.2.2.2.1.1 | exact Ne.symm wz.2.2.2.2.2.1.1 | exact wz.2.2.2.2.2.1.2.1 | exact Ne.symm wz.2.2.2.2.2.1.2.1 | exact wz.2.2.2.2.2.1.2.2 | exact Ne.symm wz.2.2.2.2.2.1.2.2 | exact wz.2.2.2.2.2.2.1 | exact Ne.symm wz.2.2.2.2.2.2.1 | exact Nat.ne_of_lt wz.2.2.2.2.2.2.1 | exact Nat.ne_of_gt wz.2.2.2.2.2.2.1 | exact wz.2.2.2.2.2.2 | exact Ne.symm wz.2.2.2.2.2.2 | exact Nat.ne_of_lt wz.2.2.2.2.2.2 | exact Nat.ne_of_gt wz.2.2.2.2.2.2 | exact wz.2.2.2.2.2.2.1.1 | exact Ne.symm wz.2.2.2.2.2.2.1.1 | exact wz.2.2.2.2.2.2.1.2.1 | exact Ne.symm wz.2.2.2.2.2.2.1.2.1 | exact wz.2.2.2.2.2.2.1.2.2 | exact Ne.symm wz.2.2.2.2.2.2.1.2.2 | exact wz.2.2.2.2.2.2.2.1 | exact Ne.symm wz.2.2.2.2.2.2.2.1 | exact Nat.ne_of_lt wz.2.2.2.2.2.2.2.1 | exact Nat.ne_of_gt wz.2.2.2.2.2.2.2.1 | exact wz.2.2.2.2.2.2.2 | exact Ne.symm wz.2.2.2.2.2.2.2 | exact Nat.ne_of_lt wz.2.2.2.2.2.2.2 | exact Nat.ne_of_gt wz.2.2.2.2.2.2.2 | exact wz.2.2.2.2.2.2.2.1.1 | exact Ne.symm wz.2.2.2.2.2.2.2.1.1 | exact wz.2.2.2.2.2.2.2.1.2.1 | exact Ne.symm wz.2.2.2.2.2.2.2.1.2.1 | exact wz.2.2.2.2.2.2.2.1.2.2 | exact Ne.symm wz.2.2.2.2.2.2.2.1.2.2 | exact wz.2.2.2.2.2.2.2.2.1 | exact Ne.symm wz.2.2.2.2.2.2.2.2.1 | exact Nat.ne_of_lt wz.2.2.2.2.2.2.2.2.1 | exact Nat.ne_of_gt wz.2.2.2.2.2.2.2.2.1 | exact wz.2.2.2.2.2.2.2.2 | exact Ne.symm wz.2.2.2.2.2.2.2.2 | exact Nat.ne_of_lt wz.2.2.2.2.2.2.2.2 | exact Nat.ne_of_gt wz.2.2.2.2.2.2.2.2 | exact wz.2.2.2.2.2.2.2.2.1.1 | exact Ne.symm wz.2.2.2.2.2.2.2.2.1.1 | exact wz.2.2.2.2.2.2.2.2.1.2.1 | exact Ne.symm wz.2.2.2.2.2.2.2.2.1.2.1 | exact wz.2.2.2.2.2.2.2.2.1.2.2 | exact Ne.symm wz.2.2.2.2.2.2.2.2.1.2.2 | exact wz.2.2.2.2.2.2.2.2.2.1 | exact Ne.symm wz.2.2.2.2.2.2.2.2.2.1 | exact Nat.ne_of_lt wz.2.2.2.2.2.2.2.2.2.1 | exact Nat.ne_of_gt wz.2.2.2.2.2.2.2.2.2.1 | exact wz.2.2.2.2.2.2.2.2.2 | exact Ne.symm wz.2.2.2.2.2.2.2.2.2 | exact Nat.ne_of_lt wz.2.2.2.2.2.2.2.2.2 | exact Nat.ne_of_gt wz.2.2.2.2.2.2.2.2.2 | exact wz.2.2.2.2.2.2.2.2.2.1.1 | exact Ne.symm wz.2.2.2.2.2.2.2.2.2.1.1 | exact wz.2.2.2.2.2.2.2.2.2.1.2.1 | exact Ne.symm wz.2.2.2.2.2.2.2.2.2.1.2.1 | exact wz.2.2.2.2.2.2.2.2.2.1.2.2 | exact Ne.symm wz.2.2.2.2.2.2.2.2.2.1.2.2 | exact wz.2.2.2.2.2.2.2.2.2.2.1 | exact Ne.symm wz.2.2.2.2.2.2.2.2.2.2.1 | exact Nat.ne_of_lt wz.2.2.2.2.2.2.2.2.2.2.1 | exact Nat.ne_of_gt wz.2.2.2.2.2.2.2.2.2.2.1 | exact wz.2.2.2.2.2.2.2.2.2.2 | exact Ne.symm wz.2.2.2.2.2.2.2.2.2.2 | exact Nat.ne_of_lt wz.2.2.2.2.2.2.2.2.2.2 | exact Nat.ne_of_gt wz.2.2.2.2.2.2.2.2.2.2 | exact wz.2.2.2.2.2.2.2.2.2.2.1.1 | exact Ne.symm wz.2.2.2.2.2.2.2.2.2.2.1.1 | exact wz.2.2.2.2.2.2.2.2.2.2.1.2.1 | exact Ne.symm wz.2.2.2.2.2.2.2.2.2.2.1.2.1 | exact wz.2.2.2.2.2.2.2.2.2.2.1.2.2 | exact Ne.symm wz.2.2.2.2.2.2.2.2.2.2.1.2.2 | exact wz.2.2.2.2.2.2.2.2.2.2.2.1 | exact Ne.symm wz.2.2.2.2.2.2.2.2.2.2.2.1 | exact Nat.ne_of_lt wz.2.2.2.2.2.2.2.2.2.2.2.1 | exact Nat.ne_of_gt wz.2.2.2.2.2.2.2.2.2.2.2.1 | exact wz.2.2.2.2.2.2.2.2.2.2.2 | exact Ne.symm wz.2.2.2.2.2.2.2.2.2.2.2 | exact Nat.ne_of_lt wz.2.2.2.2.2.2.2.2.2.2.2 | exact Nat.ne_of_gt wz.2.2.2.2.2.2.2.2.2.2.2 | exact wz.2.2.2.2.2.2.2.2.2.2.2.1.1 | exact Ne.symm wz.2.2.2.2.2.2.2.2.2.2.2.1.1 | exact wz.2.2.2.2.2.2.2.2.2.2.2.1.2.1 | exact Ne.symm wz.2.2.2.2.2.2.2.2.2.2.2.1.2.1 | exact wz.2.2.2.2.2.2.2.2.2.2.2.1.2.2 | exact Ne.symm wz.2.2.2.2.2.2.2.2.2.2.2.1.2.2 | exact wz.2.2.2.2.2.2.2.2.2.2.2.2.1 | exact Ne.symm wz.2.2.2.2.2.2.2.2.2.2.2.2.1 | exact Nat.ne_of_lt wz.2.2.2.2.2.2.2.2.2.2.2.2.1 | exact Nat.ne_of_gt wz.2.2.2.2.2.2.2.2.2.2.2.2.1 | exact wz.2.2.2.2.2.2.2.2.2.2.2.2 | exact Ne.symm wz.2.2.2.2.2.2.2.2.2.2.2.2 | exact Nat.ne_of_lt wz.2.2.2.2.2.2.2.2.2.2.2.2 | exact Nat.ne_of_gt wz.2.2.2.2.2.2.2.2.2.2.2.2 | exact wz.2.2.2.2.2.2.2.2.2.2.2.2.1.1 | exact Ne.symm wz.2.2.2.2.2.2.2.2.2.2.2.2.1.1 | exact wz.2.2.2.2.2.2.2.2.2.2.2.2.1.2.1 | exact Ne.symm wz.2.2.2.2.2.2.2.2.2.2.2.2.1.2.1 | exact wz.2.2.2.2.2.2.2.2.2.2.2.2.1.2.2 | exact Ne.symm wz.2.2.2.2.2.2.2.2.2.2.2.2.1.2.2 | exact wz.2.2.2.2.2.2.2.2.2.2.2.2.2.1 | exact Ne.symm wz.2.2.2.2.2.2.2.2.2.2.2.2.2.1 | exact Nat.ne_of_lt wz.2.2.2.2.2.2.2.2.2.2.2.2.2.1 | exact Nat.ne_of_gt wz.2.2.2.2.2.2.2.2.2.2.2.2.2.1 | exact wz.2.2.2.2.2.2.2.2.2.2.2.2.2 | exact Ne.symm wz.2.2.2.2.2.2.2.2.2.2.2.2.2 | exact Nat.ne_of_lt wz.2.2.2.2.2.2.2.2.2.2.2.2.2 | exact Nat.ne_of_gt wz.2.2.2.2.2.2.2.2.2.2.2.2.2 | exact wz.2.2.2.2.2.2.2.2.2.2.2.2.2.1.1 | exact Ne.symm wz.2.2.2.2.2.2.2.2.2.2.2.2.2.1.1 | exact wz.2.2.2.2.2.2.2.2.2.2.2.2.2.1.2.1 | exact Ne.symm wz.2.2.2.2.2.2.2.2.2.2.2.2.2.1.2.1 | exact wz.2.2.2.2.2.2.2.2.2.2.2.2.2.1.2.2 | exact Ne.symm wz.2.2.2.2.2.2.2.2.2.2.2.2.2.1.2.2 | clear wz))); done)
  k_with "om" => ((fail_if_success (with_reducible rename OmMark => x9)); first | decide | exact le_lit (by with_reducible assumption) rfl | exact room1 (by with_reducible assumption) rfl | exact room2 (by with_reducible assumption) rfl | exact room3 (by with_reducible assumption) rfl | ((have m9 : OmMark := OmMark.mk); (first | (with_reducible rename _ ∧ _ => z9; clear z9) | (with_reducible rename @Ne _ _ _ => z9; clear z9)); (repeat (with_reducible rename _ ∧ _ => z9; clear z9)); (repeat (with_reducible rename @Ne _ _ _ => z9; clear z9)); omega))
  k_with "call builtin:list.index" => (k_here; (with_reducible show wpAny _ _ (call (Value.builtin _) [Value.ref _, Value.int _ _]) _ _ _); k_dflt (refine' idx_list ?w0wN ?w0wm ?w0wi ?w0wl ?w0wk ?_; (case w0wN => k_asm); (case w0wm => k_mem); (case w0wi => assumption); (case w0wl => omega); (case w0wk => assumption)); intro w0wtk' w0wtks' w0whidx')
  k_with "subscriptTail" => (k_here; (with_reducible show wpAny _ _ (subscriptTail _ (PySem.Expr.Slice none (some _) none _) (Value.ref _) (Value.ref _)) _ _ _); k_dflt (refine' cut_upto ?w1wF ?w1wN ?w1wht ?w1whi ?w1whl ?w1wb0 ?w1wb1 ?_ ?w1whs; (case w1wF => k_asm); (case w1wN => k_asm); (case w1wht => (repeat (first | exact List.Mem.head _ | refine List.Mem.tail _ ?_))); (case w1whi => assumption); (case w1whl => first | omega | (simp only [List.length_append]; omega)); (case w1wb0 => omega); (case w1wb1 => first | omega | (simp only [List.length_append]; omega)); (case w1whs => with_unfolding_all rfl)); intro w1wz' w1wh' w1wzs' w1wF' w1wN' w1whI' w1whL')
  k_with "subscriptTail" => (k_here; (with_reducible show wpAny _ _ (subscriptTail _ (PySem.Expr.Slice (some _) none none _) (Value.ref _) (Value.ref _)) _ _ _); k_dflt (refine' cut_from ?w2wF ?w2wN ?w2wht ?w2whi ?w2whl ?w2wb0 ?w2wb1 ?_ ?w2whs; (case w2wF => k_asm); (case w2wN => k_asm); (case w2wht => (repeat (first | exact List.Mem.head _ | refine List.Mem.tail _ ?_))); (case w2whi => assumption); (case w2whl => first | omega | (simp only [List.length_append]; omega)); (case w2wb0 => omega); (case w2wb1 => first | omega | (simp only [List.length_append]; omega)); (case w2whs => with_unfolding_all rfl)); intro w2wz' w2wh' w2wzs' w2wF' w2wN' w2whI' w2whL')
  revert X
  k_fill
  intro X
  refine wpAny_call ?_
  k_dflt cell_enter
  k_steps
  all_goals ((rename News h₀ L _ _ => kN); (rename Fr h₀ L _ m => kF); refine hret _ _ _ ?_ kF (kst_newsOf kN (by kcf_all)))
  · exact prec_chk1 (by assumption)
  · exact prec_chk0 (by assumption)
theorem chk1t_tells {w : World} {mean : ExcName → Option Value} {mg mb : Str → Option Value} {dp un : Nat} {gd : Option (List Code)} {cn : Str} {cs : Scope} {a : Addr} {ccd : Value} {cl : List (Str × Addr)} {outer : List Env} {A₀ : Around} {base h₀ : Heap} {L : Addr} {m : Str → Option Value} {s : Shared} {Q E : Value → Shared → Prop}
    {r dx x v : Addr} {rest : List (Addr × Obj)} {ys : List Value} {ns : List Int} {t1 t2 t3 t4 t5 t6 t7 ta tb : Tok} {p q : Int}
    (B : Below A₀ base outer h₀) (F : Fr h₀ L s.heap m) (X : (hd.heap_39 w.params).In h₀) (N : News h₀ L s.heap ((v, tupO ys) :: (r, instObj 215 dx) :: (dx, dictOf [({ hash := PyData.keyHash w.params (Str.ofString "number"), key := .str (Str.ofString "number") t1, val := .int (-1) t2 } : DictEntry), ({ hash := PyData.keyHash w.params (Str.ofString "scope"), key := .str (Str.ofString "scope") t3, val := .ref x } : DictEntry), ({ hash := PyData.keyHash w.params (Str.ofString "strength"), key := .str (Str.ofString "strength") t4, val := .str (Str.ofString "values") t5 } : DictEntry), ({ hash := PyData.keyHash w.params (Str.ofString "s"), key := .str (Str.ofString "s") t6, val := .int p ta } : DictEntry), ({ hash := PyData.keyHash w.params (Str.ofString "t"), key := .str (Str.ofString "t") t7, val := .int q tb } : DictEntry)] 5) :: rest)) (Tp : Top hd.view_39 (looseW hd.view_39 []) mean mg mb h₀) (hk : cs.kind = .function)
    (hI : IntsAre ys ns) (hl : ns.length ≤ 6) (hdp : dp + 5 < recursionLimit) (hun : un + 200 < cLine)
    (hret : ∀ b h' tk', b = precB p q ns → Fr h₀ L h' m → News h₀ L h' ((v, tupO ys) :: (r, instObj 215 dx) :: (dx, dictOf [({ hash := PyData.keyHash w.params (Str.ofString "number"), key := .str (Str.ofString "number") t1, val := .int (-1) t2 } : DictEntry), ({ hash := PyData.keyHash w.params (Str.ofString "scope"), key := .str (Str.ofString "scope") t3, val := .ref x } : DictEntry), ({ hash := PyData.keyHash w.params (Str.ofString "strength"), key := .str (Str.ofString "strength") t4, val := .str (Str.ofString "values") t5 } : DictEntry), ({ hash := PyData.keyHash w.params (Str.ofString "s"), key := .str (Str.ofString "s") t6, val := .int p ta } : DictEntry), ({ hash := PyData.keyHash w.params (Str.ofString "t"), key := .str (Str.ofString "t") t7, val := .int q tb } : DictEntry)] 5) :: rest) → Q (.bool b) { s with heap := h', toks := tk' }) :
    wpAny (model PySem.Challenge.rw_nz0011_01.row.prog w) (ktrTop dp un gd cn cs L a ccd cl outer) (call (.ref 205) [.ref r, .ref v]) Q E s := by
  w_top off
  k_with_none
  k_with "ne" => (refine neN ?_; (try dsimp only); (first | with_reducible assumption | (with_reducible refine Ne.symm ?_; assumption) | (repeat (with_reducible rename _ ∧ _ => wz; first | exact wz.1 | exact Ne.symm wz.1 | exact Nat.ne_of_lt wz.1 | exact Nat.ne_of_gt wz.1 | exact wz.1.1 | exact Ne.symm wz.1.1 | exact wz.1.2.1 | exact Ne.symm wz.1.2.1 | exact wz.1.2.2 | exact Ne.symm wz.1.2.2 | exact wz.2.1 | exact Ne.symm wz.2.1 | exact Nat.ne_of_lt wz.2.1 | exact Nat.ne_of_gt wz.2.1 | exact wz.2 | exact Ne.symm wz.2 | exact Nat.ne_of_lt wz.2 | exact Nat.ne_of_gt wz.2 | exact wz.2.1.1 | exact Ne.symm wz.2.1.1 | exact wz.2.1.2.1 | exact Ne.symm wz.2.1.2.1 | exact wz.2.1.2.2 | exact Ne.symm wz.2.1.2.2 | exact wz.2.2.1 | exact Ne.symm wz.2.2.1 | exact Nat.ne_of_lt wz.2.2.1 | exact Nat.ne_of_gt wz.2.2.1 | exact wz.2.2 | exact Ne.symm wz.2.2 | exact Nat.ne_of_lt wz.2.2 | exact Nat.ne_of_gt wz.2.2 | exact wz.2.2.1.1 | exact Ne.symm wz.2.2.1.1 | exact wz.2.2.1.2.1 | exact Ne.symm wz.2.2.1.2.1 | exact wz.2.2.1.2.2 | exact Ne.symm wz.2.2.1.2.2 | exact wz.2.2.2.1 | exact Ne.symm wz.2.2.2.1 | exact Nat.ne_of_lt wz.2.2.2.1 | exact Nat.ne_of_gt wz.2.2.2.1 | exact wz.2.2.2 | exact Ne.symm wz.2.2.2 | exact Nat.ne_of_lt wz.2.2.2 | exact Nat.ne_of_gt wz.2.2.2 | exact wz.2.2.2.1.1 | exact Ne.symm wz.2.2.2.1.1 | exact wz.2.2.2.1.2.1 | exact Ne.symm wz.2.2.2.1.2.1 | exact wz.2.2.2.1.2.2 | exact Ne.symm wz.2.2.2.1.2.2 | exact wz.2.2.2.2.1 | exact Ne.symm wz.2.2.2.2.1 | exact Nat.ne_of_lt wz.2.2.2.2.1 | exact Nat.ne_of_gt wz.2.2.2.2.1 | exact wz.2.2.2.2 | exact Ne.symm wz.2.2.2.2 | exact Nat.ne_of_lt wz.2.2.2.2 | exact Nat.ne_of_gt wz.2.2.2.2 | exact wz.2.2.2.2.1.1 | exact Ne.symm wz.2.2.2.2.1.1 | exact wz.2.2.2.2.1.2.1 | exact Ne.symm wz.2.2.2.2.1.2.1 | exact wz.2.2.2.2.1.2.2 | exact Ne.symm wz.2.2.2.2.1.2.2 | exact wz.2.2.2.2.2.1 | exact Ne.symm wz.2.2.2.2.2.1 | exact Nat.ne_of_lt wz.2.2.2.2.2.1 | exact Nat.ne_of_gt wz.2.2.2.2.2.1 | exact wz.2.2.2.2.2 | exact Ne.symm wz.2.2.2.2.2 | exact Nat.ne_of_lt wz.2.2.2.2.2 | exact Nat.ne_of_gt wz.2.2.2.2.2 | exact wz.2.2.2.2.2.1.1 | exact Ne.symm wz.2.2.2.2.2.1.1 | exact wz.2.2.2.2.2.1.2.1 | exact Ne.symm wz.2.2.2.2.2.1.2.1 | exact wz.2.2.2.2.2.1.2.2 | exact Ne.symm wz.2.2.2.2.2.1.2.2 | exact wz.2.2.2.2.2.2.1 | exact Ne.symm wz.2.2.2.2.2.2.1 | exact Nat.ne_of_lt wz.2.2.2.2.2.2.1 | exact Nat.ne_of_gt wz.2.2.2.2.2.2.1 | exact wz.2.2.2.2.2.2 | exact Ne.symm wz.2.2.2.2.2.2 | exact Nat.ne_of_lt wz.2.2.2.2.2.2 | exact Nat.ne_of_gt wz.2.2.2.2.2.2 | exact wz.2.2.2.2.2.2.1.1 | exact Ne.symm wz.2.2.2.2.2.2.1.1 | exact wz.2.2.2.2.2.2.1.2.1 | exact Ne.symm wz.2.2.2.2.2.2.1.2.1 | exact wz.2.2.2.2.2.2.1.2.2 | exact Ne.symm wz.2.2.2.2.2.2.1.2.2 | exact wz.2.2.2.2.2.2.2.1 | exact Ne.symm wz.2.2.2.2.2.2.2.1 | exact Nat.ne_of_lt wz.2.2.2.2.2.2.2.1 | exact Nat.ne_of_gt wz.2.2.2.2.2.2.2.1 | exact wz.2.2.2.2.2.2.2 | exact Ne.symm wz.2.2.2.2.2.2.2 | exact Nat.ne_of_lt wz.2.2.2.2.2.2.2 | exact Nat.ne_of_gt wz.2.2.2.2.2.2.2 | exact wz.2.2.2.2.2.2.2.1.1 | exact Ne.symm wz.2.2.2.2.2.2.2.1.1 | exact wz.2.2.2.2.2.2.2.1.2.1 | exact Ne.symm wz.2.2.2.2.2.2.2.1.2.1 | exact wz.2.2.2.2.2.2.2.1.2.2 | exact Ne.symm wz.2.2.2.2.2.2.2.1.2.2 | exact wz.2.2.2.2.2.2.2.2.1 | exact Ne.symm wz.2.2.2.2.2.2.2.2.1 | exact Nat.ne_of_lt wz.2.2.2.2.2.2.2.2.1 | exact Nat.ne_of_gt wz.2.2.2.2.2.2.2.2.1 | exact wz.2.2.2.2.2.2.2.2 | exact Ne.symm wz.2.2.2.2.2.2.2.2 | exact Nat.ne_of_lt wz.2.2.2.2.2.2.2.2 | exact Nat.ne_of_gt wz.2.2.2.2.2.2.2.2 | exact wz.2.2.2.2.2.2.2.2.1.1 | exact Ne.symm wz.2.2.2.2.2.2.2.2.1.1 | exact wz.2.2.2.2.2.2.2.2.1.2.1 | exact Ne.symm wz.2.2.2.2.2.2.2.2.1.2.1 | exact wz.2.2.2.2.2.2.2.2.1.2.2 | exact Ne.symm wz.2.2.2.2.2.2.2.2.1.2.2 | exact wz.2.2.2.2.2.2.2.2.2.1 | exact Ne.symm wz.2.2.2.2.2.2.2.2.2.1 | exact Nat.ne_of_lt wz.2.2.2.2.2.2.2.2.2.1 | exact Nat.ne_of_gt wz.2.2.2.2.2.2.2.2.2.1 | exact wz.2.2.2.2.2.2.2.2.2 | exact Ne.symm wz.2.2.2.2.2.2.2.2.2 | exact Nat.ne_of_lt wz.2.2.2.2.2.2.2.2.2 | exact Nat.ne_of_gt wz.2.2.2.2.2.2.2.2.2 | exact wz.2.2.2.2.2.2.2.2.2.1.1 | exact Ne.symm wz.2.2.2.2.2.2.2.2.2.1.1 | exact wz.2.2.2.2.2.2.2.2.2.1.2.1 | exact Ne.symm wz.2.2.2.2.2.2.2.2.2.1.2.1 | exact wz.2.2.2.2.2.2.2.2.2.1.2.2 | exact Ne.symm wz.2.2.2.2.2.2.2.2.2.1.2.2 | exact wz.2.2.2.2.2.2.2.2.2.2.1 | exact Ne.symm wz.2.2.2.2.2.2.2.2.2.2.1 | exact Nat.ne_of_lt wz.2.2.2.2.2.2.2.2.2.2.1 | exact Nat.ne_of_gt wz.2.2.2.2.2.2.2.2.2.2.1 | exact wz.2.2.2.2.2.2.2.2.2.2 | exact Ne.symm wz.2.2.2.2.2.2.2.2.2.2 | exact Nat.ne_of_lt wz.2.2.2.2.2.2.2.2.2.2 | exact Nat.ne_of_gt wz.2.2.2.2.2.2.2.2.2.2 | exact wz.2.2.2.2.2.2.2.2.2.2.1.1 | exact Ne.symm wz.2.2.2.2.2.2.2.2.2.2.1.1 | exact wz.2.2.2.2.2.2.2.2.2.2.1.2.1 | exact Ne.symm wz.2.2.2.2.2.2.2.2.2.2.1.2.1 | exact wz.2.2.2.2.2.2.2.2.2.2.1.2.2 | exact Ne.symm wz.2.2.2.2.2.2.2.2.2.2.1.2.2 | exact wz.2.2.2.2.2.2.2.2.2.2.2.1 | exact Ne.symm wz.2.2.2.2.2.2.2.2.2.2.2.1 | exact Nat.ne_of_lt wz.2.2.2.2.2.2.2.2.2.2.2.1 | exact Nat.ne_of_gt wz.2.2.2.2.2.2.2.2.2.2.2.1 | exact wz.2.2.2.2.2.2.2.2.2.2.2 | exact Ne.symm wz.2.2.2.2.2.2.2.2.2.2.2 | exact Nat.ne_of_lt wz.2.2.2.2.2.2.2.2.2.2.2 | exact Nat.ne_of_gt wz.2.2.2.2.2.2.2.2.2.2.2 | exact wz.2.2.2.2.2.2.2.2.2.2.2.1.1 | exact Ne.symm wz.2.2.2.2.2.2.2.2.2.2.2.1.1 | exact wz.2.2.2.2.2.2.2.2.2.2.2.1.2.1 | exact Ne.symm wz.2.2.2.2.2.2.2.2.2.2.2.1.2.1 | exact wz.2.2.2.2.2.2.2.2.2.2.2.1.2.2 | exact Ne.symm wz.2.2.2.2.2.2.2.2.2.2.2.1.2.2 | exact wz.2.2.2.2.2.2.2.2.2.2.2.2.1 | exact Ne.symm wz.2.2.2.2.2.2.2.2.2.2.2.2.1 | exact Nat.ne_of_lt wz.2.2.2.2.2.2.2.2.2.2.2.2.1 | exact Nat.ne_of_gt wz.2.2.2.2.2.2.2.2.2.2.2.2.1 | exact wz.2.2.2.2.2.2.2.2.2.2.2.2 | exact Ne.symm wz.2.2.2.2.2.2.2.2.2.2.2.2 | exact Nat.ne_of_lt wz.2.2.2.2.2.2.2.2.2.2.2.2 | exact Nat.ne_of_gt wz.2.2.2.2.2.2.2.2.2.2.2.2 | exact wz.2.2.2.2.2.2.2.2.2.2.2.2.1.1 | exact Ne.symm wz.2.2.2.2.2.2.2.2.2.2.2.2.1.1 | exact wz.2.2.2.2.2.2.2.2.2.2.2.2.1.2.1 | exact Ne.symm wz.2.2.2.2.2.2.2.2.2.2.2.2.1.2.1 | exact wz.2.2.2.2.2.2.2.2.2.2.2.2.1.2.2 | exact Ne.symm wz.2.2.2.2.2.2.2.2.2.2.2.2.1.2.2 | exact wz.2.2.2.2.2.2.2.2.2.2.2.2.2.1 | exact Ne.symm wz.2.2.2.2.2.2.2.2.2.2.2.2.2.1 | exact Nat.ne_of_lt wz.2.2.2.2.2.2.2.2.2.2.2.2.2.1 | exact Nat.ne_of_gt wz.2.2.2.2.2.2.2.2.2.2.2.2.2.1 | exact wz.2.2.2.2.2.2.2.2.2.2.2.2.2 | exact Ne.symm wz.2.2.2.2.2.2.2.2.2.2.2.2.2 | exact Nat.ne_of_lt wz.2.2.2.2.2.2.2.2.2.2.2.2.2 | exact Nat.ne_of_gt wz.2.2.2.2.2.2.2.2.2.2.2.2.2 | exact wz.2.2.2.2.2.2.2.2.2.2.2.2.2.1.1 | exact Ne.symm wz.2.2.2.2.2.2.2.2.2.2.2.2.2.1.1 | exact wz.2.2.2.2.2.2.2.2.2.2.2.2.2.1.2.1 | exact Ne.symm wz.2.2.2.2.2.2.2.2.2.2.2.2.2.1.2.1 | exact wz.2.2.2.2.2.2.2.2.2.2.2.2.2.1.2.2 | exact Ne.symm wz.2.2.2.2.2.2.2.2.2.2.2.2.2.1.2.2 | clear wz))); done)
  k_with "om" => ((fail_if_success (with_reducible rename OmMark => x9)); first | decide | exact le_lit (by with_reducible assumption) rfl | exact room1 (by with_reducible assumption) rfl | exact room2 (by with_reducible assumption) rfl | exact room3 (by with_reducible assumption) rfl | ((have m9 : OmMark := OmMark.mk); (first | (with_reducible rename _ ∧ _ => z9; clear z9) | (with_reducible rename @Ne _ _ _ => z9; clear z9)); (repeat (with_reducible rename _ ∧ _ => z9; clear z9)); (repeat (with_reducible rename @Ne _ _ _ => z9; clear z9)); omega))
  k_with "call builtin:list.index" => (k_here; (with_reducible show wpAny _ _ (call (Value.builtin _) [Value.ref _, Value.int _ _]) _ _ _); k_dflt (refine' idx_list ?w0wN ?w0wm ?w0wi ?w0wl ?w0wk ?_; (case w0wN => k_asm); (case w0wm => k_mem); (case w0wi => assumption); (case w0wl => omega); (case w0wk => assumption)); intro w0wtk' w0wtks' w0whidx')
  k_with "subscriptTail" => (k_here; (with_reducible show wpAny _ _ (subscriptTail _ (PySem.Expr.Slice none (some _) none _) (Value.ref _) (Value.ref _)) _ _ _); k_dflt (refine' cut_upto ?w1wF ?w1wN ?w1wht ?w1whi ?w1whl ?w1wb0 ?w1wb1 ?_ ?w1whs; (case w1wF => k_asm); (case w1wN => k_asm); (case w1wht => (repeat (first | exact List.Mem.head _ | refine List.Mem.tail _ ?_))); (case w1whi => assumption); (case w1whl => first | omega | (simp only [List.length_append]; omega)); (case w1wb0 => omega); (case w1wb1 => first | omega | (simp only [List.length_append]; omega)); (case w1whs => with_unfolding_all rfl)); intro w1wz' w1wh' w1wzs' w1wF' w1wN' w1whI' w1whL')
  k_with "subscriptTail" => (k_here; (with_reducible show wpAny _ _ (subscriptTail _ (PySem.Expr.Slice (some _) none none _) (Value.ref _) (Value.ref _)) _ _ _); k_dflt (refine' cut_from ?w2wF ?w2wN ?w2wht ?w2whi ?w2whl ?w2wb0 ?w2wb1 ?_ ?w2whs; (case w2wF => k_asm); (case w2wN => k_asm); (case w2wht => (repeat (first | exact List.Mem.head _ | refine List.Mem.tail _ ?_))); (case w2whi => assumption); (case w2whl => first | omega | (simp only [List.length_append]; omega)); (case w2wb0 => omega); (case w2wb1 => first | omega | (simp only [List.length_append]; omega)); (case w2whs => with_unfolding_all rfl)); intro w2wz' w2wh' w2wzs' w2wF' w2wN' w2whI' w2whL')
  revert X
  k_fill
  intro X
  refine wpAny_call ?_
  k_dflt cell_enter
  k_steps
  all_goals ((rename News h₀ L _ _ => kN); (rename Fr h₀ L _ m => kF); refine hret _ _ _ ?_ kF (kst_newsOf kN (by kcf_all)))
  · exact prec_chk1 (by assumption)
  · exact prec_chk0 (by assumption)
end
section
theorem chk2l_tells {w : World} {mean : ExcName → Option Value} {mg mb : Str → Option Value} {dp un : Nat} {gd : Option (List Code)} {cn : Str} {cs : Scope} {a : Addr} {ccd : Value} {cl : List (Str × Addr)} {outer : List Env} {A₀ : Around} {base h₀ : Heap} {L : Addr} {m : Str → Option Value} {s : Shared} {Q E : Value → Shared → Prop}
    {r dx z D v : Addr} {rest : List (Addr × Obj)} {ys : List Value} {ns : List Int} {t1 t2 t3 t4 t5 t6 t7 t8 t9 ta : Tok} {k : Nat} {st sa : Bool}
    (B : Below A₀ base outer h₀) (F : Fr h₀ L s.heap m) (X : (hd.heap_39 w.params).In h₀) (N : News h₀ L s.heap ((v, LCg.lst ys) :: (r, instObj 117 dx) :: (dx, dictOf [({ hash := PyData.keyHash w.params (Str.ofString "number"), key := .str (Str.ofString "number") t1, val := .int (-1) t2 } : DictEntry), ({ hash := PyData.keyHash w.params (Str.ofString "scope"), key := .str (Str.ofString "scope") t3, val := .ref z } : DictEntry), ({ hash := PyData.keyHash w.params (Str.ofString "strength"), key := .str (Str.ofString "strength") t4, val := .str (Str.ofString "values") t5 } : DictEntry), ({ hash := PyData.keyHash w.params (Str.ofString "pairs"), key := .str (Str.ofString "pairs") t6, val := .ref D } : DictEntry), ({ hash := PyData.keyHash w.params (Str.ofString "many"), key := .str (Str.ofString "many") t7, val := .int (k : Nat) t8 } : DictEntry), ({ hash := PyData.keyHash w.params (Str.ofString "is_strict"), key := .str (Str.ofString "is_strict") t9, val := .bool st } : DictEntry), ({ hash := PyData.keyHash w.params (Str.ofString "stands_alike"), key := .str (Str.ofString "stands_alike") ta, val := .bool sa } : DictEntry)] 7) :: rest)) (Tp : Top hd.view_39 (looseW hd.view_39 []) mean mg mb h₀) (hk : cs.kind = .function)
    (hI : IntsAre ys ns) (hl : ns.length ≤ 6) (hkn : k ≤ ns.length) (hdp : dp + 5 < recursionLimit) (hun : un + 200 < cLine)
    (hret : ∀ b h' tk', b = lexKeeps (ns.take k) (ns.drop k) st → Fr h₀ L h' m → News h₀ L h' ((v, LCg.lst ys) :: (r, instObj 117 dx) :: (dx, dictOf [({ hash := PyData.keyHash w.params (Str.ofString "number"), key := .str (Str.ofString "number") t1, val := .int (-1) t2 } : DictEntry), ({ hash := PyData.keyHash w.params (Str.ofString "scope"), key := .str (Str.ofString "scope") t3, val := .ref z } : DictEntry), ({ hash := PyData.keyHash w.params (Str.ofString "strength"), key := .str (Str.ofString "strength") t4, val := .str (Str.ofString "values") t5 } : DictEntry), ({ hash := PyData.keyHash w.params (Str.ofString "pairs"), key := .str (Str.ofString "pairs") t6, val := .ref D } : DictEntry), ({ hash := PyData.keyHash w.params (Str.ofString "many"), key := .str (Str.ofString "many") t7, val := .int (k : Nat) t8 } : DictEntry), ({ hash := PyData.keyHash w.params (Str.ofString "is_strict"), key := .str (Str.ofString "is_strict") t9, val := .bool st } : DictEntry), ({ hash := PyData.keyHash w.params (Str.ofString "stands_alike"), key := .str (Str.ofString "stands_alike") ta, val := .bool sa } : DictEntry)] 7) :: rest) → Q (.bool b) { s with heap := h', toks := tk' }) :
    wpAny (model PySem.Challenge.rw_nz0011_01.row.prog w) (ktrTop dp un gd cn cs L a ccd cl outer) (call (.ref 107) [.ref r, .ref v]) Q E s := by
  w_top off
  k_with_none
  k_with "ne" => (refine neN ?_; (try dsimp only); (first | with_reducible assumption | (with_reducible refine Ne.symm ?_; assumption) | (repeat (with_reducible rename _ ∧ _ => wz; first | exact wz.1 | exact Ne.symm wz.1 | exact Nat.ne_of_lt wz.1 | exact Nat.ne_of_gt wz.1 | exact wz.1.1 | exact Ne.symm wz.1.1 | exact wz.1.2.1 | exact Ne.symm wz.1.2.1 | exact wz.1.2.2 | exact Ne.symm wz.1.2.2 | exact wz.2.1 | exact Ne.symm wz.2.1 | exact Nat.ne_of_lt wz.2.1 | exact Nat.ne_of_gt wz.2.1 | exact wz.2 | exact Ne.symm wz.2 | exact Nat.ne_of_lt wz.2 | exact Nat.ne_of_gt wz.2 | exact wz.2.1.1 | exact Ne.symm wz.2.1.1 | exact wz.2.1.2.1 | exact Ne.symm wz.2.1.2.1 | exact wz.2.1.2.2 | exact Ne.symm wz.2.1.2.2 | exact wz.2.2.1 | exact Ne.symm wz.2.2.1 | exact Nat.ne_of_lt wz.2.2.1 | exact Nat.ne_of_gt wz.2.2.1 | exact wz.2.2 | exact Ne.symm wz.2.2 | exact Nat.ne_of_lt wz.2.2 | exact Nat.ne_of_gt wz.2.2 | exact wz.2.2.1.1 | exact Ne.symm wz.2.2.1.1 | exact wz.2.2.1.2.1 | exact Ne.symm wz.2.2.1.2.1 | exact wz.2.2.1.2.2 | exact Ne.symm wz.2.2.1.2.2 | exact wz.2.2.2.1 | exact Ne.symm wz.2.2.2.1 | exact Nat.ne_of_lt wz.2.2.2.1 | exact Nat.ne_of_gt wz.2.2.2.1 | exact wz.2.2.2 | exact Ne.symm wz.2.2.2 | exact Nat.ne_of_lt wz.2.2.2 | exact Nat.ne_of_gt wz.2.2.2 | exact wz.2.2.2.1.1 | exact Ne.symm wz.2.2.2.1.1 | exact wz.2.2.2.1.2.1 | exact Ne.symm wz.2.2.2.1.2.1 | exact wz.2.2.2.1.2.2 | exact Ne.symm wz.2.2.2.1.2.2 | exact wz.2.2.2.2.1 | exact Ne.symm wz.2.2.2.2.1 | exact Nat.ne_of_lt wz.2.2.2.2.1 | exact Nat.ne_of_gt wz.2.2.2.2.1 | exact wz.2.2.2.2 | exact Ne.symm wz.2.2.2.2 | exact Nat.ne_of_lt wz.2.2.2.2 | exact Nat.ne_of_gt wz.2.2.2.2 | exact wz.2.2.2.2.1.1 | exact Ne.symm wz.2.2.2.2.1.1 | exact wz.2.2.2.2.1.2.1 | exact Ne.symm wz.2.2.2.2.1.2.1 | exact wz.2.2.2.2.1.2.2 | exact Ne.symm wz.2.2.2.2.1.2.2 | exact wz.2.2.2.2.2.1 | exact Ne.symm wz.2.2.2.2.2.1 | exact Nat.ne_of_lt wz.2.2.2.2.2.1 | exact Nat.ne_of_gt wz.2.2.2.2.2.1 | exact wz.2.2.2.2.2 | exact Ne.symm wz.2.2.2.2.2 | exact Nat.ne_of_lt wz.2.2.2.2.2 | exact Nat.ne_of_gt wz.2.2.2.2.2 | exact wz.2.2.2.2.2.1.1 | exact Ne.symm wz.2.2.2.2.2.1.1 | exact wz.2.2.2.2.2.1.2.1 | exact Ne.symm wz.2.2.2.2.2.1.2.1 | exact wz.2.2.2.2.2.1.2.2 | exact Ne.symm wz.2.2.2.2.2.1.2.2 | exact wz.2.2.2.2.2.2.1 | exact Ne.symm wz.2.2.2.2.2.2.1 | exact Nat.ne_of_lt wz.2.2.2.2.2.2.1 | exact Nat.ne_of_gt wz.2.2.2.2.2.2.1 | exact wz.2.2.2.2.2.2 | exact Ne.symm wz.2.2.2.2.2.2 | exact Nat.ne_of_lt wz.2.2.2.2.2.2 | exact Nat.ne_of_gt wz.2.2.2.2.2.2 | exact wz.2.2.2.2.2.2.1.1 | exact Ne.symm wz.2.2.2.2.2.2.1.1 | exact wz.2.2.2.2.2.2.1.2.1 | exact Ne.symm wz.2.2.2.2.2.2.1.2.1 | exact wz.2.2.2.2.2.2.1.2.2 | exact Ne.symm wz.2.2.2.2.2.2.1.2.2 | exact wz.2.2.2.2.2.2.2.1 | exact Ne.symm wz.2.2.2.2.2.2.2.1 | exact Nat.ne_of_lt wz.2.2.2.2.2.2.2.1 | exact Nat.ne_of_gt wz.2.2.2.2.2.2.2.1 | exact wz.2.2.2.2.2.2.2 | exact Ne.symm wz.2.2.2.2.2.2.2 | exact Nat.ne_of_lt wz.2.2.2.2.2.2.2 | exact Nat.ne_of_gt wz.2.2.2.2.2.2.2 | exact wz.2.2.2.2.2.2.2.1.1 | exact Ne.symm wz.2.2.2.2.2.2.2.1.1 | exact wz.2.2.2.2.2.2.2.1.2.1 | exact Ne.symm wz.2.2.2.2.2.2.2.1.2.1 | exact wz.2.2.2.2.2.2.2.1.2.2 | exact Ne.symm wz.2.2.2.2.2.2.2.1.2.2 | exact wz.2.2.2.2.2.2.2.2.1 | exact Ne.symm wz.2.2.2.2.2.2.2.2.1 | exact Nat.ne_of_lt wz.2.2.2.2.2.2.2.2.1 | exact Nat.ne_of_gt wz.2.2.2.2.2.2.2.2.1 | exact wz.2.2.2.2.2.2.2.2 | exact Ne.symm wz.2.2.2.2.2.2.2.2 | exact Nat.ne_of_lt wz.2.2.2.2.2.2.2.2 | exact Nat.ne_of_gt wz.2.2.2.2.2.2.2.2 | exact wz.2.2.2.2.2.2.2.2.1.1 | exact Ne.symm wz.2.2.2.2.2.2.2.2.1.1 | exact wz.2.2.2.2.2.2.2.2.1.2.1 | exact Ne.symm wz.2.2.2.2.2.2.2.2.1.2.1 | exact wz.2.2.2.2.2.2.2.2.1.2.2 | exact Ne.symm wz.2.2.2.2.2.2.2.2.1.2.2 | exact wz.2.2.2.2.2.2.2.2.2.1 | exact Ne.symm wz.2.2.2.2.2.2.2.2.2.1 | exact Nat.ne_of_lt wz.2.2.2.2.2.2.2.2.2.1 | exact Nat.ne_of_gt wz.2.2.2.2.2.2.2.2.2.1 | exact wz.2.2.2.2.2.2.2.2.2 | exact Ne.symm wz.2.2.2.2.2.2.2.2.2 | exact Nat.ne_of_lt wz.2.2.2.2.2.2.2.2.2 | exact Nat.ne_of_gt wz.2.2.2.2.2.2.2.2.2 | exact wz.2.2.2.2.2.2.2.2.2.1.1 | exact Ne.symm wz.2.2.2.2.2.2.2.2.2.1.1 | exact wz.2.2.2.2.2.2.2.2.2.1.2.1 | exact Ne.symm wz.2.2.2.2.2.2.2.2.2.1.2.1 | exact wz.2.2.2.2.2.2.2.2.2.1.2.2 | exact Ne.symm wz.2.2.2.2.2.2.2.2.2.1.2.2 | exact wz.2.2.2.2.2.2.2.2.2.2.1 | exact Ne.symm wz.2.2.2.2.2.2.2.2.2.2.1 | exact Nat.ne_of_lt wz.2.2.2.2.2.2.2.2.2.2.1 | exact Nat.ne_of_gt wz.2.2.2.2.2.2.2.2.2.2.1 | exact wz.2.2.2.2.2.2.2.2.2.2 | exact Ne.symm wz.2.2.2.2.2.2.2.2.2.2 | exact Nat.ne_of_lt wz.2.2.2.2.2.2.2.2.2.2 | exact Nat.ne_of_gt wz.2.2.2.2.2.2.2.2.2.2 | exact wz.2.2.2.2.2.2.2.2.2.2.1.1 | exact Ne.symm wz.2.2.2.2.2.2.2.2.2.2.1.1 | exact wz.2.2.2.2.2.2.2.2.2.2.1.2.1 | exact Ne.symm wz.2.2.2.2.2.2.2.2.2.2.1.2.1 | exact wz.2.2.2.2.2.2.2.2.2.2.1.2.2 | exact Ne.symm wz.2.2.2.2.2.2.2.2.2.2.1.2.2 | exact wz.2.2.2.2.2.2.2.2.2.2.2.1 | exact Ne.symm wz.2.2.2.2.2.2.2.2.2.2.2.1 | exact Nat.ne_of_lt wz.2.2.2.2.2.2.2.2.2.2.2.1 | exact Nat.ne_of_gt wz.2.2.2.2.2.2.2.2.2.2.2.1 | exact wz.2.2.2.2.2.2.2.2.2.2.2 | exact Ne.symm wz.2.2.2.2.2.2.2.2.2.2.2 | exact Nat.ne_of_lt wz.2.2.2.2.2.2.2.2.2.2.2 | exact Nat.ne_of_gt wz.2.2.2.2.2.2.2.2.2.2.2 | exact wz.2.2.2.2.2.2.2.2.2.2.2.1.1 | exact Ne.symm wz.2.2.2.2.2.2.2.2.2.2.2.1.1 | exact wz.2.2.2.2.2.2.2.2.2.2.2.1.2.1 | exact Ne.symm wz.2.2.2.2.2.2.2.2.2.2.2.1.2.1 | exact wz.2.2.2.2.2.2.2.2.2.2.2.1.2.2 | exact Ne.symm wz.2.2.2.2.2.2.2.2.2.2.2.1.2.2 | exact wz.2.2.2.2.2.2.2.2.2.2.2.2.1 | exact Ne.symm wz.2.2.2.2.2.2.2.2.2.2.2.2.1 | exact Nat.ne_of_lt wz.2.2.2.2.2.2.2.2.2.2.2.2.1 | exact Nat.ne_of_gt wz.2.2.2.2.2.2.2.2.2.2.2.2.1 | exact wz.2.2.2.2.2.2.2.2.2.2.2.2 | exact Ne.symm wz.2.2.2.2.2.2.2.2.2.2.2.2 | exact Nat.ne_of_lt wz.2.2.2.2.2.2.2.2.2.2.2.2 | exact Nat.ne_of_gt wz.2.2.2.2.2.2.2.2.2.2.2.2 | exact wz.2.2.2.2.2.2.2.2.2.2.2.2.1.1 | exact Ne.symm wz.2.2.2.2.2.2.2.2.2.2.2.2.1.1 | exact wz.2.2.2.2.2.2.2.2.2.2.2.2.1.2.1 | exact Ne.symm wz.2.2.2.2.2.2.2.2.2.2.2.2.1.2.1 | exact wz.2.2.2.2.2.2.2.2.2.2.2.2.1.2.2 | exact Ne.symm wz.2.2.2.2.2.2.2.2.2.2.2.2.1.2.2 | exact wz.2.2.2.2.2.2.2.2.2.2.2.2.2.1 | exact Ne.symm wz.2.2.2.2.2.2.2.2.2.2.2.2.2.1 | exact Nat.ne_of_lt wz.2.2.2.2.2.2.2.2.2.2.2.2.2.1 | exact Nat.ne_of_gt wz.2.2.2.2.2.2.2.2.2.2.2.2.2.1 | exact wz.2.2.2.2.2.2.2.2.2.2.2.2.2 | exact Ne.symm wz.2.2.2.2.2.2.2.2.2.2.2.2.2 | exact Nat.ne_of_lt wz.2.2.2.2.2.2.2.2.2.2.2.2.2 | exact Nat.ne_of_gt wz.2.2.2.2.2.2.2.2.2.2.2.2.2 | exact wz.2.2.2.2.2.2.2.2.2.2.2.2.2.1.1 | exact Ne.symm wz.2.2.2.2.2.2.2.2.2.2.2.2.2.1.1 | exact wz.2.2.2.2.2.2.2.2.2.2.2.2.2.1.2.1 | exact Ne.symm wz.2.2.2.2.2.2.2.2.2.2.2.2.2.1.2.1 | exact wz.2.2.2.2.2.2.2.2.2.2.2.2.2.1.2.2 | exact Ne.symm wz.2.2.2.2.2.2.2.2.2.2.2.2.2.1.2.2 | clear wz))); done)
  k_with "om" => ((fail_if_success (with_reducible rename OmMark => x9)); first | decide | exact le_lit (by with_reducible assumption) rfl | exact room1 (by with_reducible assumption) rfl | exact room2 (by with_reducible assumption) rfl | exact room3 (by with_reducible assumption) rfl | ((have m9 : OmMark := OmMark.mk); (first | (with_reducible rename _ ∧ _ => z9; clear z9) | (with_reducible rename @Ne _ _ _ => z9; clear z9)); (repeat (with_reducible rename _ ∧ _ => z9; clear z9)); (repeat (with_reducible rename @Ne _ _ _ => z9; clear z9)); omega))
  k_with "subscriptTail" => (k_here; (with_reducible show wpAny _ _ (subscriptTail _ (PySem.Expr.Slice none (some _) none _) (Value.ref _) (Value.ref _)) _ _ _); k_dflt (refine' cut_upto ?w0wF ?w0wN ?w0wht ?w0whi ?w0whl ?w0wb0 ?w0wb1 ?_ ?w0whs; (case w0wF => k_asm); (case w0wN => k_asm); (case w0wht => (repeat (first | exact List.Mem.head _ | refine List.Mem.tail _ ?_))); (case w0whi => assumption); (case w0whl => first | omega | (simp only [List.length_append]; omega)); (case w0wb0 => omega); (case w0wb1 => first | omega | (simp only [List.length_append]; omega)); (case w0whs => with_unfolding_all rfl)); intro w0wz' w0wh' w0wzs' w0wF' w0wN' w0whI' w0whL')
  k_with "subscriptTail" => (k_here; (with_reducible show wpAny _ _ (subscriptTail _ (PySem.Expr.Slice (some _) none none _) (Value.ref _) (Value.ref _)) _ _ _); k_dflt (refine' cut_from ?w1wF ?w1wN ?w1wht ?w1whi ?w1whl ?w1wb0 ?w1wb1 ?_ ?w1whs; (case w1wF => k_asm); (case w1wN => k_asm); (case w1wht => (repeat (first | exact List.Mem.head _ | refine List.Mem.tail _ ?_))); (case w1whi => assumption); (case w1whl => first | omega | (simp only [List.length_append]; omega)); (case w1wb0 => omega); (case w1wb1 => first | omega | (simp only [List.length_append]; omega)); (case w1whs => with_unfolding_all rfl)); intro w1wz' w1wh' w1wzs' w1wF' w1wN' w1whI' w1whL')
  k_with "subscriptTail Name Slice ref ref" => (k_here; (with_reducible show wpAny _ _ (subscriptTail _ (PySem.Expr.Slice none (some _) none _) (Value.ref _) (Value.ref _)) _ _ _); k_dflt (refine' cutl_upto ?w2wF ?w2wN ?w2wht ?w2whi ?w2whl ?w2wb0 ?w2wb1 ?_ ?w2whs ?w2whg; (case w2wF => k_asm); (case w2wN => k_asm); (case w2wht => (repeat (first | exact List.Mem.head _ | refine List.Mem.tail _ ?_))); (case w2whi => assumption); (case w2whl => omega); (case w2wb0 => omega); (case w2wb1 => omega); (case w2whs => with_unfolding_all rfl); (case w2whg => (intro _; with_unfolding_all rfl))); intro w2wz' w2wh' w2wzs' w2wF' w2wN' l1 w2whI' w2whL'; (try k_lt l1))
  k_with "subscriptTail Name Slice ref ref" => (k_here; (with_reducible show wpAny _ _ (subscriptTail _ (PySem.Expr.Slice (some _) none none _) (Value.ref _) (Value.ref _)) _ _ _); k_dflt (refine' cutl_from ?w3wF ?w3wN ?w3wht ?w3whi ?w3whl ?w3wb0 ?w3wb1 ?_ ?w3whs ?w3whg; (case w3wF => k_asm); (case w3wN => k_asm); (case w3wht => (repeat (first | exact List.Mem.head _ | refine List.Mem.tail _ ?_))); (case w3whi => assumption); (case w3whl => omega); (case w3wb0 => omega); (case w3wb1 => omega); (case w3whs => with_unfolding_all rfl); (case w3whg => (intro _; with_unfolding_all rfl))); intro w3wz' w3wh' w3wzs' w3wF' w3wN' l1 w3whI' w3whL'; (try k_lt l1))
  k_with "compareOp Lt" => (k_here; (with_reducible show wpAny _ _ (compareOp CmpOp.Lt (Value.ref _) (Value.ref _)) _ _ _); k_dflt (refine' lt_tups ?w4wN ?w4wl ?w4wb ?w4whi ?w4whj ?w4wu ?_; (case w4wN => k_asm); (case w4wl => (repeat (first | exact List.Mem.head _ | refine List.Mem.tail _ ?_))); (case w4wb => (repeat (first | exact List.Mem.head _ | refine List.Mem.tail _ ?_))); (case w4whi => assumption); (case w4whj => assumption); (case w4wu => ktr_units)))
  k_with "compareOp Eq ref ref" => (k_here; (with_reducible show wpAny _ _ (compareOp CmpOp.Eq (Value.ref _) (Value.ref _)) _ _ _); k_dflt (refine' eq_tups ?w5wN ?w5wl ?w5wb ?w5whi ?w5whj ?w5wu ?_; (case w5wN => k_asm); (case w5wl => (repeat (first | exact List.Mem.head _ | refine List.Mem.tail _ ?_))); (case w5wb => (repeat (first | exact List.Mem.head _ | refine List.Mem.tail _ ?_))); (case w5whi => assumption); (case w5whj => assumption); (case w5wu => ktr_units)))
  k_with "call type:tuple" => (k_here; (with_reducible show wpAny _ _ (call (Value.type "tuple") [Value.ref _]) _ _ _); k_dflt (refine' call_tuple_tup (tupO_tup ?w6wN ?w6wm) ?_; (case w6wN => k_asm); (case w6wm => (repeat (first | exact List.Mem.head _ | refine List.Mem.tail _ ?_)))))
  revert X
  k_fill
  intro X
  refine wpAny_call ?_
  k_dflt cell_enter
  k_steps
  all_goals ((rename News h₀ L _ _ => kN); (rename Fr h₀ L _ m => kF); refine hret _ _ _ ?_ kF (kst_newsOf kN (by kcf_all)))
  · exact lexChk_lt (by assumption)
  · exact lexChk_eq (by assumption) (by assumption)
  · exact lexChk_ne (by assumption) (by assumption)
theorem chk2t_tells {w : World} {mean : ExcName → Option Value} {mg mb : Str → Option Value} {dp un : Nat} {gd : Option (List Code)} {cn : Str} {cs : Scope} {a : Addr} {ccd : Value} {cl : List (Str × Addr)} {outer : List Env} {A₀ : Around} {base h₀ : Heap} {L : Addr} {m : Str → Option Value} {s : Shared} {Q E : Value → Shared → Prop}
    {r dx z D v : Addr} {rest : List (Addr × Obj)} {ys : List Value} {ns : List Int} {t1 t2 t3 t4 t5 t6 t7 t8 t9 ta : Tok} {k : Nat} {st sa : Bool}
    (B : Below A₀ base outer h₀) (F : Fr h₀ L s.heap m) (X : (hd.heap_39 w.params).In h₀) (N : News h₀ L s.heap ((v, tupO ys) :: (r, instObj 117 dx) :: (dx, dictOf [({ hash := PyData.keyHash w.params (Str.ofString "number"), key := .str (Str.ofString "number") t1, val := .int (-1) t2 } : DictEntry), ({ hash := PyData.keyHash w.params (Str.ofString "scope"), key := .str (Str.ofString "scope") t3, val := .ref z } : DictEntry), ({ hash := PyData.keyHash w.params (Str.ofString "strength"), key := .str (Str.ofString "strength") t4, val := .str (Str.ofString "values") t5 } : DictEntry), ({ hash := PyData.keyHash w.params (Str.ofString "pairs"), key := .str (Str.ofString "pairs") t6, val := .ref D } : DictEntry), ({ hash := PyData.keyHash w.params (Str.ofString "many"), key := .str (Str.ofString "many") t7, val := .int (k : Nat) t8 } : DictEntry), ({ hash := PyData.keyHash w.params (Str.ofString "is_strict"), key := .str (Str.ofString "is_strict") t9, val := .bool st } : DictEntry), ({ hash := PyData.keyHash w.params (Str.ofString "stands_alike"), key := .str (Str.ofString "stands_alike") ta, val := .bool sa } : DictEntry)] 7) :: rest)) (Tp : Top hd.view_39 (looseW hd.view_39 []) mean mg mb h₀) (hk : cs.kind = .function)
    (hI : IntsAre ys ns) (hl : ns.length ≤ 6) (hkn : k ≤ ns.length) (hdp : dp + 5 < recursionLimit) (hun : un + 200 < cLine)
    (hret : ∀ b h' tk', b = lexKeeps (ns.take k) (ns.drop k) st → Fr h₀ L h' m → News h₀ L h' ((v, tupO ys) :: (r, instObj 117 dx) :: (dx, dictOf [({ hash := PyData.keyHash w.params (Str.ofString "number"), key := .str (Str.ofString "number") t1, val := .int (-1) t2 } : DictEntry), ({ hash := PyData.keyHash w.params (Str.ofString "scope"), key := .str (Str.ofString "scope") t3, val := .ref z } : DictEntry), ({ hash := PyData.keyHash w.params (Str.ofString "strength"), key := .str (Str.ofString "strength") t4, val := .str (Str.ofString "values") t5 } : DictEntry), ({ hash := PyData.keyHash w.params (Str.ofString "pairs"), key := .str (Str.ofString "pairs") t6, val := .ref D } : DictEntry), ({ hash := PyData.keyHash w.params (Str.ofString "many"), key := .str (Str.ofString "many") t7, val := .int (k : Nat) t8 } : DictEntry), ({ hash := PyData.keyHash w.params (Str.ofString "is_strict"), key := .str (Str.ofString "is_strict") t9, val := .bool st } : DictEntry), ({ hash := PyData.keyHash w.params (Str.ofString "stands_alike"), key := .str (Str.ofString "stands_alike") ta, val := .bool sa } : DictEntry)] 7) :: rest) → Q (.bool b) { s with heap := h', toks := tk' }) :
    wpAny (model PySem.Challenge.rw_nz0011_01.row.prog w) (ktrTop dp un gd cn cs L a ccd cl outer) (call (.ref 107) [.ref r, .ref v]) Q E s := by
  w_top off
  k_with_none
  k_with "ne" => (refine neN ?_; (try dsimp only); (first | with_reducible assumption | (with_reducible refine Ne.symm ?_; assumption) | (repeat (with_reducible rename _ ∧ _ => wz; first | exact wz.1 | exact Ne.symm wz.1 | exact Nat.ne_of_lt wz.1 | exact Nat.ne_of_gt wz.1 | exact wz.1.1 | exact Ne.symm wz.1.1 | exact wz.1.2.1 | exact Ne.symm wz.1.2.1 | exact wz.1.2.2 | exact Ne.symm wz.1.2.2 | exact wz.2.1 | exact Ne.symm wz.2.1 | exact Nat.ne_of_lt wz.2.1 | exact Nat.ne_of_gt wz.2.1 | exact wz.2 | exact Ne.symm wz.2 | exact Nat.ne_of_lt wz.2 | exact Nat.ne_of_gt wz.2 | exact wz.2.1.1 | exact Ne.symm wz.2.1.1 | exact wz.2.1.2.1 | exact Ne.symm wz.2.1.2.1 | exact wz.2.1.2.2 | exact Ne.symm wz.2.1.2.2 | exact wz.2.2.1 | exact Ne.symm wz.2.2.1 | exact Nat.ne_of_lt wz.2.2.1 | exact Nat.ne_of_gt wz.2.2.1 | exact wz.2.2 | exact Ne.symm wz.2.2 | exact Nat.ne_of_lt wz.2.2 | exact Nat.ne_of_gt wz.2.2 | exact wz.2.2.1.1 | exact Ne.symm wz.2.2.1.1 | exact wz.2.2.1.2.1 | exact Ne.symm wz.2.2.1.2.1 | exact wz.2.2.1.2.2 | exact Ne.symm wz.2.2.1.2.2 | exact wz.2.2.2.1 | exact Ne.symm wz.2.2.2.1 | exact Nat.ne_of_lt wz.2.2.2.1 | exact Nat.ne_of_gt wz.2.2.2.1 | exact wz.2.2.2 | exact Ne.symm wz.2.2.2 | exact Nat.ne_of_lt wz.2.2.2 | exact Nat.ne_of_gt wz.2.2.2 | exact wz.2.2.2.1.1 | exact Ne.symm wz.2.2.2.1.1 | exact wz.2.2.2.1.2.1 | exact Ne.symm wz.2.2.2.1.2.1 | exact wz.2.2.2.1.2.2 | exact Ne.symm wz.2.2.2.1.2.2 | exact wz.2.2.2.2.1 | exact Ne.symm wz.2.2.2.2.1 | exact Nat.ne_of_lt wz.2.2.2.2.1 | exact Nat.ne_of_gt wz.2.2.2.2.1 | exact wz.2.2.2.2 | exact Ne.symm wz.2.2.2.2 | exact Nat.ne_of_lt wz.2.2.2.2 | exact Nat.ne_of_gt wz.2.2.2.2 | exact wz.2.2.2.2.1.1 | exact Ne.symm wz.2.2.2.2.1.1 | exact wz.2.2.2.2.1.2.1 | exact Ne.symm wz.2.2.2.2.1.2.1 | exact wz.2.2.2.2.1.2.2 | exact Ne.symm wz.2.2.2.2.1.2.2 | exact wz.2.2.2.2.2.1 | exact Ne.symm wz.2.2.2.2.2.1 | exact Nat.ne_of_lt wz.2.2.2.2.2.1 | exact Nat.ne_of_gt wz.2.2.2.2.2.1 | exact wz.2.2.2.2.2 | exact Ne.symm wz.2.2.2.2.2 | exact Nat.ne_of_lt wz.2.2.2.2.2 | exact Nat.ne_of_gt wz.2.2.2.2.2 | exact wz.2.2.2.2.2.1.1 | exact Ne.symm wz.2.2.2.2.2.1.1 | exact wz.2.2.2.2.2.1.2.1 | exact Ne.symm wz.2.2.2.2.2.1.2.1 | exact wz.2.2.2.2.2.1.2.2 | exact Ne.symm wz.2.2.2.2.2.1.2.2 | exact wz.2.2.2.2.2.2.1 | exact Ne.symm wz.2.2.2.2.2.2.1 | exact Nat.ne_of_lt wz.2.2.2.2.2.2.1 | exact Nat.ne_of_gt wz.2.2.2.2.2.2.1 | exact wz.2.2.2.2.2.2 | exact Ne.symm wz.2.2.2.2.2.2 | exact Nat.ne_of_lt wz.2.2.2.2.2.2 | exact Nat.ne_of_gt wz.2.2.2.2.2.2 | exact wz.2.2.2.2.2.2.1.1 | exact Ne.symm wz.2.2.2.2.2.2.1.1 | exact wz.2.2.2.2.2.2.1.2.1 | exact Ne.symm wz.2.2.2.2.2.2.1.2.1 | exact wz.2.2.2.2.2.2.1.2.2 | exact Ne.symm wz.2.2.2.2.2.2.1.2.2 | exact wz.2.2.2.2.2.2.2.1 | exact Ne.symm wz.2.2.2.2.2.2.2.1 | exact Nat.ne_of_lt wz.2.2.2.2.2.2.2.1 | exact Nat.ne_of_gt wz.2.2.2.2.2.2.2.1 | exact wz.2.2.2.2.2.2.2 | exact Ne.symm wz.2.2.2.2.2.2.2 | exact Nat.ne_of_lt wz.2.2.2.2.2.2.2 | exact Nat.ne_of_gt wz.2.2.2.2.2.2.2 | exact wz.2.2.2.2.2.2.2.1.1 | exact Ne.symm wz.2.2.2.2.2.2.2.1.1 | exact wz.2.2.2.2.2.2.2.1.2.1 | exact Ne.symm wz.2.2.2.2.2.2.2.1.2.1 | exact wz.2.2.2.2.2.2.2.1.2.2 | exact Ne.symm wz.2.2.2.2.2.2.2.1.2.2 | exact wz.2.2.2.2.2.2.2.2.1 | exact Ne.symm wz.2.2.2.2.2.2.2.2.1 | exact Nat.ne_of_lt wz.2.2.2.2.2.2.2.2.1 | exact Nat.ne_of_gt wz.2.2.2.2.2.2.2.2.1 | exact wz.2.2.2.2.2.2.2.2 | exact Ne.symm wz.2.2.2.2.2.2.2.2 | exact Nat.ne_of_lt wz.2.2.2.2.2.2.2.2 | exact Nat.ne_of_gt wz.2.2.2.2.2.2.2.2 | exact wz.2.2.2.2.2.2.2.2.1.1 | exact Ne.symm wz.2.2.2.2.2.2.2.2.1.1 | exact wz.2.2.2.2.2.2.2.2.1.2.1 | exact Ne.symm wz.2.2.2.2.2.2.2.2.1.2.1 | exact wz.2.2.2.2.2.2.2.2.1.2.2 | exact Ne.symm wz.2.2.2.2.2.2.2.2.1.2.2 | exact wz.2.2.2.2.2.2.2.2.2.1 | exact Ne.symm wz.2.2.2.2.2.2.2.2.2.1 | exact Nat.ne_of_lt wz.2.2.2.2.2.2.2.2.2.1 | exact Nat.ne_of_gt wz.2.2.2.2.2.2.2.2.2.1 | exact wz.2.2.2.2.2.2.2.2.2 | exact Ne.symm wz.2.2.2.2.2.2.2.2.2 | exact Nat.ne_of_lt wz.2.2.2.2.2.2.2.2.2 | exact Nat.ne_of_gt wz.2.2.2.2.2.2.2.2.2 | exact wz.2.2.2.2.2.2.2.2.2.1.1 | exact Ne.symm wz.2.2.2.2.2.2.2.2.2.1.1 | exact wz.2.2.2.2.2.2.2.2.2.1.2.1 | exact Ne.symm wz.2.2.2.2.2.2.2.2.2.1.2.1 | exact wz.2.2.2.2.2.2.2.2.2.1.2.2 | exact Ne.symm wz.2.2.2.2.2.2.2.2.2.1.2.2 | exact wz.2.2.2.2.2.2.2.2.2.2.1 | exact Ne.symm wz.2.2.2.2.2.2.2.2.2.2.1 | exact Nat.ne_of_lt wz.2.2.2.2.2.2.2.2.2.2.1 | exact Nat.ne_of_gt wz.2.2.2.2.2.2.2.2.2.2.1 | exact wz.2.2.2.2.2.2.2.2.2.2 | exact Ne.symm wz.2.2.2.2.2.2.2.2.2.2 | exact Nat.ne_of_lt wz.2.2.2.2.2.2.2.2.2.2 | exact Nat.ne_of_gt wz.2.2.2.2.2.2.2.2.2.2 | exact wz.2.2.2.2.2.2.2.2.2.2.1.1 | exact Ne.symm wz.2.2.2.2.2.2.2.2.2.2.1.1 | exact wz.2.2.2.2.2.2.2.2.2.2.1.2.1 | exact Ne.symm wz.2.2.2.2.2.2.2.2.2.2.1.2.1 | exact wz.2.2.2.2.2.2.2.2.2.2.1.2.2 | exact Ne.symm wz.2.2.2.2.2.2.2.2.2.2.1.2.2 | exact wz.2.2.2.2.2.2.2.2.2.2.2.1 | exact Ne.symm wz.2.2.2.2.2.2.2.2.2.2.2.1 | exact Nat.ne_of_lt wz.2.2.2.2.2.2.2.2.2.2.2.1 | exact Nat.ne_of_gt wz.2.2.2.2.2.2.2.2.2.2.2.1 | exact wz.2.2.2.2.2.2.2.2.2.2.2 | exact Ne.symm wz.2.2.2.2.2.2.2.2.2.2.2 | exact Nat.ne_of_lt wz.2.2.2.2.2.2.2.2.2.2.2 | exact Nat.ne_of_gt wz.2.2.2.2.2.2.2.2.2.2.2 | exact wz.2.2.2.2.2.2.2.2.2.2.2.1.1 | exact Ne.symm wz.2.2.2.2.2.2.2.2.2.2.2.1.1 | exact wz.2.2.2.2.2.2.2.2.2.2.2.1.2.1 | exact Ne.symm wz.2.2.2.2.2.2.2.2.2.2.2.1.2.1 | exact wz.2.2.2.2.2.2.2.2.2.2.2.1.2.2 | exact Ne.symm wz.2.2.2.2.2.2.2.2.2.2.2.1.2.2 | exact wz.2.2.2.2.2.2.2.2.2.2.2.2.1 | exact Ne.symm wz.2.2.2.2.2.2.2.2.2.2.2.2.1 | exact Nat.ne_of_lt wz.2.2.2.2.2.2.2.2.2.2.2.2.1 | exact Nat.ne_of_gt wz.2.2.2.2.2.2.2.2.2.2.2.2.1 | exact wz.2.2.2.2.2.2.2.2.2.2.2.2 | exact Ne.symm wz.2.2.2.2.2.2.2.2.2.2.2.2 | exact Nat.ne_of_lt wz.2.2.2.2.2.2.2.2.2.2.2.2 | exact Nat.ne_of_gt wz.2.2.2.2.2.2.2.2.2.2.2.2 | exact wz.2.2.2.2.2.2.2.2.2.2.2.2.1.1 | exact Ne.symm wz.2.2.2.2.2.2.2.2.2.2.2.2.1.1 | exact wz.2.2.2.2.2.2.2.2.2.2.2.2.1.2.1 | exact Ne.symm wz.2.2.2.2.2.2.2.2.2.2.2.2.1.2.1 | exact wz.2.2.2.2.2.2.2.2.2.2.2.2.1.2.2 | exact Ne.symm wz.2.2.2.2.2.2.2.2.2.2.2.2.1.2.2 | exact wz.2.2.2.2.2.2.2.2.2.2.2.2.2.1 | exact Ne.symm wz.2.2.2.2.2.2.2.2.2.2.2.2.2.1 | exact Nat.ne_of_lt wz.2.2.2.2.2.2.2.2.2.2.2.2.2.1 | exact Nat.ne_of_gt wz.2.2.2.2.2.2.2.2.2.2.2.2.2.1 | exact wz.2.2.2.2.2.2.2.2.2.2.2.2.2 | exact Ne.symm wz.2.2.2.2.2.2.2.2.2.2.2.2.2 | exact Nat.ne_of_lt wz.2.2.2.2.2.2.2.2.2.2.2.2.2 | exact Nat.ne_of_gt wz.2.2.2.2.2.2.2.2.2.2.2.2.2 | exact wz.2.2.2.2.2.2.2.2.2.2.2.2.2.1.1 | exact Ne.symm wz.2.2.2.2.2.2.2.2.2.2.2.2.2.1.1 | exact wz.2.2.2.2.2.2.2.2.2.2.2.2.2.1.2.1 | exact Ne.symm wz.2.2.2.2.2.2.2.2.2.2.2.2.2.1.2.1 | exact wz.2.2.2.2.2.2.2.2.2.2.2.2.2.1.2.2 | exact Ne.symm wz.2.2.2.2.2.2.2.2.2.2.2.2.2.1.2.2 | clear wz))); done)
  k_with "om" => ((fail_if_success (with_reducible rename OmMark => x9)); first | decide | exact le_lit (by with_reducible assumption) rfl | exact room1 (by with_reducible assumption) rfl | exact room2 (by with_reducible assumption) rfl | exact room3 (by with_reducible assumption) rfl | ((have m9 : OmMark := OmMark.mk); (first | (with_reducible rename _ ∧ _ => z9; clear z9) | (with_reducible rename @Ne _ _ _ => z9; clear z9)); (repeat (with_reducible rename _ ∧ _ => z9; clear z9)); (repeat (with_reducible rename @Ne _ _ _ => z9; clear z9)); omega))
  k_with "subscriptTail" => (k_here; (with_reducible show wpAny _ _ (subscriptTail _ (PySem.Expr.Slice none (some _) none _) (Value.ref _) (Value.ref _)) _ _ _); k_dflt (refine' cut_upto ?w0wF ?w0wN ?w0wht ?w0whi ?w0whl ?w0wb0 ?w0wb1 ?_ ?w0whs; (case w0wF => k_asm); (case w0wN => k_asm); (case w0wht => (repeat (first | exact List.Mem.head _ | refine List.Mem.tail _ ?_))); (case w0whi => assumption); (case w0whl => first | omega | (simp only [List.length_append]; omega)); (case w0wb0 => omega); (case w0wb1 => first | omega | (simp only [List.length_append]; omega)); (case w0whs => with_unfolding_all rfl)); intro w0wz' w0wh' w0wzs' w0wF' w0wN' w0whI' w0whL')
  k_with "subscriptTail" => (k_here; (with_reducible show wpAny _ _ (subscriptTail _ (PySem.Expr.Slice (some _) none none _) (Value.ref _) (Value.ref _)) _ _ _); k_dflt (refine' cut_from ?w1wF ?w1wN ?w1wht ?w1whi ?w1whl ?w1wb0 ?w1wb1 ?_ ?w1whs; (case w1wF => k_asm); (case w1wN => k_asm); (case w1wht => (repeat (first | exact List.Mem.head _ | refine List.Mem.tail _ ?_))); (case w1whi => assumption); (case w1whl => first | omega | (simp only [List.length_append]; omega)); (case w1wb0 => omega); (case w1wb1 => first | omega | (simp only [List.length_append]; omega)); (case w1whs => with_unfolding_all rfl)); intro w1wz' w1wh' w1wzs' w1wF' w1wN' w1whI' w1whL')
  k_with "subscriptTail Name Slice ref ref" => (k_here; (with_reducible show wpAny _ _ (subscriptTail _ (PySem.Expr.Slice none (some _) none _) (Value.ref _) (Value.ref _)) _ _ _); k_dflt (refine' cutl_upto ?w2wF ?w2wN ?w2wht ?w2whi ?w2whl ?w2wb0 ?w2wb1 ?_ ?w2whs ?w2whg; (case w2wF => k_asm); (case w2wN => k_asm); (case w2wht => (repeat (first | exact List.Mem.head _ | refine List.Mem.tail _ ?_))); (case w2whi => assumption); (case w2whl => omega); (case w2wb0 => omega); (case w2wb1 => omega); (case w2whs => with_unfolding_all rfl); (case w2whg => (intro _; with_unfolding_all rfl))); intro w2wz' w2wh' w2wzs' w2wF' w2wN' l1 w2whI' w2whL'; (try k_lt l1))
  k_with "subscriptTail Name Slice ref ref" => (k_here; (with_reducible show wpAny _ _ (subscriptTail _ (PySem.Expr.Slice (some _) none none _) (Value.ref _) (Value.ref _)) _ _ _); k_dflt (refine' cutl_from ?w3wF ?w3wN ?w3wht ?w3whi ?w3whl ?w3wb0 ?w3wb1 ?_ ?w3whs ?w3whg; (case w3wF => k_asm); (case w3wN => k_asm); (case w3wht => (repeat (first | exact List.Mem.head _ | refine List.Mem.tail _ ?_))); (case w3whi => assumption); (case w3whl => omega); (case w3wb0 => omega); (case w3wb1 => omega); (case w3whs => with_unfolding_all rfl); (case w3whg => (intro _; with_unfolding_all rfl))); intro w3wz' w3wh' w3wzs' w3wF' w3wN' l1 w3whI' w3whL'; (try k_lt l1))
  k_with "compareOp Lt" => (k_here; (with_reducible show wpAny _ _ (compareOp CmpOp.Lt (Value.ref _) (Value.ref _)) _ _ _); k_dflt (refine' lt_tups ?w4wN ?w4wl ?w4wb ?w4whi ?w4whj ?w4wu ?_; (case w4wN => k_asm); (case w4wl => (repeat (first | exact List.Mem.head _ | refine List.Mem.tail _ ?_))); (case w4wb => (repeat (first | exact List.Mem.head _ | refine List.Mem.tail _ ?_))); (case w4whi => assumption); (case w4whj => assumption); (case w4wu => ktr_units)))
  k_with "compareOp Eq ref ref" => (k_here; (with_reducible show wpAny _ _ (compareOp CmpOp.Eq (Value.ref _) (Value.ref _)) _ _ _); k_dflt (refine' eq_tups ?w5wN ?w5wl ?w5wb ?w5whi ?w5whj ?w5wu ?_; (case w5wN => k_asm); (case w5wl => (repeat (first | exact List.Mem.head _ | refine List.Mem.tail _ ?_))); (case w5wb => (repeat (first | exact List.Mem.head _ | refine List.Mem.tail _ ?_))); (case w5whi => assumption); (case w5whj => assumption); (case w5wu => ktr_units)))
  k_with "call type:tuple" => (k_here; (with_reducible show wpAny _ _ (call (Value.type "tuple") [Value.ref _]) _ _ _); k_dflt (refine' call_tuple_tup (tupO_tup ?w6wN ?w6wm) ?_; (case w6wN => k_asm); (case w6wm => (repeat (first | exact List.Mem.head _ | refine List.Mem.tail _ ?_)))))
  revert X
  k_fill
  intro X
  refine wpAny_call ?_
  k_dflt cell_enter
  k_steps
  all_goals ((rename News h₀ L _ _ => kN); (rename Fr h₀ L _ m => kF); refine hret _ _ _ ?_ kF (kst_newsOf kN (by kcf_all)))
  · exact lexChk_lt (by assumption)
  · exact lexChk_eq (by assumption) (by assumption)
  · exact lexChk_ne (by assumption) (by assumption)
end
section
theorem news_put {h₀ h : Heap} {L : Addr} {news : List (Addr × Obj)} {e : Addr × Obj} (N : News h₀ L h news) (he : e ∈ news) {more : List (Addr × Obj)} (M : News h₀ L h more) : News h₀ L h (e :: more) := fun p hp => by
  rcases List.mem_cons.mp hp with rfl | hp
  · exact N _ he
  · exact M _ hp
theorem news_drop {h₀ h : Heap} {L : Addr} {news : List (Addr × Obj)} {e : Addr × Obj} (N : News h₀ L h (e :: news)) : News h₀ L h news := fun p hp => N p (.tail _ hp)
theorem news_back {h₀ h : Heap} {L : Addr} {e q : Addr × Obj} {pre post : List (Addr × Obj)} (N : News h₀ L h (e :: q :: (pre ++ post))) : News h₀ L h (pre ++ e :: post) := fun p hp => by
  rcases List.mem_append.mp hp with h | h
  · exact N p (.tail _ (.tail _ (List.mem_append_left _ h)))
  · rcases List.mem_cons.mp h with rfl | h
    · exact N _ (.head _)
    · exact N p (.tail _ (.tail _ (List.mem_append_right _ h)))
theorem news_back2 {h₀ h : Heap} {L : Addr} {e q x1 x2 x3 : Addr × Obj} {pre post : List (Addr × Obj)} (N : News h₀ L h (x1 :: x2 :: x3 :: e :: q :: (pre ++ post))) : News h₀ L h (x1 :: x2 :: x3 :: (pre ++ e :: post)) :=
  news_put N (.head _) (news_put N (.tail _ (.head _)) (news_put N (.tail _ (.tail _ (.head _))) (news_back (news_drop (news_drop (news_drop N))))))
theorem news_back3 {h₀ h : Heap} {L : Addr} {e q x1 x2 x3 x4 x5 : Addr × Obj} {pre post : List (Addr × Obj)} (N : News h₀ L h (x1 :: x2 :: x3 :: x4 :: x5 :: e :: q :: (pre ++ post))) : News h₀ L h (x1 :: x2 :: x3 :: x4 :: x5 :: (pre ++ e :: post)) :=
  news_put N (.head _) (news_put N (.tail _ (.head _)) (news_back2 (news_drop (news_drop N))))
theorem told_use {w : World} {mean : ExcName → Option Value} {mg mb : Str → Option Value} {dp un : Nat} {gd : Option (List Code)} {cn : Str} {cs : Scope} {a : Addr} {ccd : Value} {cl : List (Str × Addr)} {outer : List Env} {A₀ : Around} {base h₀ : Heap} {L : Addr} {m : Str → Option Value} {s : Shared} {Q E : Value → Shared → Prop}
    {d c : Addr} {o : Obj} {news : List (Addr × Obj)} {g : Obj → List (Addr × Obj)} {k : Int} {tk : Tok} {ws : List Value} {ns : List Int} {n : Nat}
    (B : Below A₀ base outer h₀) (F : Fr h₀ L s.heap m) (X : (hd.heap_39 w.params).In h₀) (N : News h₀ L s.heap news) (T : Top hd.view_39 (looseW hd.view_39 []) mean mg mb h₀) (hk : cs.kind = .function)
    (U : UpdF d o news g) (hD : o.IsDictOf (PySem.strKind PySem.Challenge.rw_nz0011_01.row.prog w) (srcKV c k tk)) (hc : (c, listOf ws.toArray n) ∈ news) (hcd : c ≠ d) (hI : IntsAre ws ns) (hl1 : 1 ≤ ns.length) (hl2 : ns.length ≤ 63) (hk0 : 0 ≤ k) (hk1 : k ≤ 800)
    (hdp : dp + 5 < recursionLimit)
    (ret0 : ∀ p T x vs rs tks k' t' o' h' tk', News h₀ L h' ((p, tupO [.ref T, .ref x]) :: (T, tupO [.str (Str.ofString "increasing") tks, .ref x]) :: (x, tupO vs) :: g o') → o'.IsDictOf (PySem.strKind PySem.Challenge.rw_nz0011_01.row.prog w) (srcKV c k' t') → IntsAre vs rs → rs.length ≤ 3 → (∀ r ∈ rs, 0 ≤ r ∧ r < 4) → k ≤ k' → k' ≤ k + 12 → @Ne Nat x d → @Ne Nat T d → @Ne Nat p d → Fr h₀ L h' m → Q (.ref p) { s with heap := h', toks := tk' })
    (ret1 : ∀ p T x vs rs a ta b tb tks k' t' o' h' tk', News h₀ L h' ((p, tupO [.ref T, .ref x]) :: (T, tupO [.str (Str.ofString "precede") tks, .int a ta, .int b tb, .ref x]) :: (x, tupO vs) :: g o') → o'.IsDictOf (PySem.strKind PySem.Challenge.rw_nz0011_01.row.prog w) (srcKV c k' t') → IntsAre vs rs → rs.length ≤ 3 → (∀ r ∈ rs, 0 ≤ r ∧ r < 4) → 0 ≤ a → a < 3 → 0 ≤ b → b < 3 → k ≤ k' → k' ≤ k + 12 → @Ne Nat x d → @Ne Nat T d → @Ne Nat p d → Fr h₀ L h' m → Q (.ref p) { s with heap := h', toks := tk' })
    (ret2 : ∀ p T z x y vs rs us qs tks k' t' o' h' tk', News h₀ L h' ((p, tupO [.ref T, .ref z]) :: (z, tupO (vs ++ us)) :: (T, tupO [.str (Str.ofString "lex_le") tks, .ref x, .ref y]) :: (y, tupO us) :: (x, tupO vs) :: g o') → o'.IsDictOf (PySem.strKind PySem.Challenge.rw_nz0011_01.row.prog w) (srcKV c k' t') → IntsAre vs rs → rs.length ≤ 3 → (∀ r ∈ rs, 0 ≤ r ∧ r < 4) → IntsAre us qs → qs.length ≤ 3 → (∀ r ∈ qs, 0 ≤ r ∧ r < 4) → IntsAre (vs ++ us) (rs ++ qs) → k ≤ k' → k' ≤ k + 12 → @Ne Nat x d → @Ne Nat y d → @Ne Nat z d → @Ne Nat T d → @Ne Nat p d → Fr h₀ L h' m → Q (.ref p) { s with heap := h', toks := tk' })
    (ret3 : ∀ p T z x y vs rs us qs tks k' t' o' h' tk', News h₀ L h' ((p, tupO [.ref T, .ref z]) :: (z, tupO (vs ++ us)) :: (T, tupO [.str (Str.ofString "lex_lt") tks, .ref x, .ref y]) :: (y, tupO us) :: (x, tupO vs) :: g o') → o'.IsDictOf (PySem.strKind PySem.Challenge.rw_nz0011_01.row.prog w) (srcKV c k' t') → IntsAre vs rs → rs.length ≤ 3 → (∀ r ∈ rs, 0 ≤ r ∧ r < 4) → IntsAre us qs → qs.length ≤ 3 → (∀ r ∈ qs, 0 ≤ r ∧ r < 4) → IntsAre (vs ++ us) (rs ++ qs) → k ≤ k' → k' ≤ k + 12 → @Ne Nat x d → @Ne Nat y d → @Ne Nat z d → @Ne Nat T d → @Ne Nat p d → Fr h₀ L h' m → Q (.ref p) { s with heap := h', toks := tk' }) :
    wpAny (model PySem.Challenge.rw_nz0011_01.row.prog w) (ktrTop dp un gd cn cs L a ccd cl outer) (call (.ref 248) [.ref d]) Q E s := by
  obtain ⟨pre, post, rfl, hg, hpre, hpost⟩ := U.split
  refine told_tells (rest := pre ++ post) (n := n) B F X (news_put N (List.mem_append_right _ (.head _)) (news_put N hc fun p hp => N p ((List.mem_append.mp hp).elim (fun h => List.mem_append_left _ h) fun h => List.mem_append_right _ (.tail _ h)))) T hk (fun p hp => (List.mem_append.mp hp).elim (hpre p) (hpost p)) hD hcd hI hl1 hl2 hk0 hk1 hdp
    (fun p T x vs rs tks k' t' o' h' tk' N' => ret0 p T x vs rs tks k' t' o' h' tk' (hg o' ▸ news_back2 N'))
    (fun p T x vs rs a ta b tb tks k' t' o' h' tk' N' => ret1 p T x vs rs a ta b tb tks k' t' o' h' tk' (hg o' ▸ news_back2 N')) (fun st p T z x y vs rs us qs nm tks k' t' o' h' tk' N' hD' e => ?_)
  cases st
  · have e1 : nm = Str.ofString "lex_le" := e
    subst e1
    exact ret2 p T z x y vs rs us qs tks k' t' o' h' tk' (hg o' ▸ news_back3 N') hD'
  · have e1 : nm = Str.ofString "lex_lt" := e
    subst e1
    exact ret3 p T z x y vs rs us qs tks k' t' o' h' tk' (hg o' ▸ news_back3 N') hD'
end
section
/-- a ledger with two of its objects left open -/
inductive Upd2 (d k : Addr) (o q : Obj) : List (Addr × Obj) → (Obj → Obj → List (Addr × Obj)) → Prop
  | nil : Upd2 d k o q [] (fun _ _ => [])
  | hd {r g} : Upd2 d k o q r g → Upd2 d k o q ((d, o) :: r) (fun o' q' => (d, o') :: g o' q')
  | hk {r g} : Upd2 d k o q r g → Upd2 d k o q ((k, q) :: r) (fun o' q' => (k, q') :: g o' q')
  | tail {p r g} : Upd2 d k o q r g → Upd2 d k o q (p :: r) (fun o' q' => p :: g o' q')
  | rest {r} : Upd2 d k o q r (fun _ _ => r)
theorem Upd2.eq {d k : Addr} {o q : Obj} {l : List (Addr × Obj)} {g : Obj → Obj → List (Addr × Obj)} (U : Upd2 d k o q l g) : g o q = l := by
  induction U with
  | nil => rfl
  | hd _ ih => exact congrArg (List.cons _) ih
  | hk _ ih => exact congrArg (List.cons _) ih
  | tail _ ih => exact congrArg (List.cons _) ih
  | rest => rfl
noncomputable def SrcJ (w : World) (g : Obj → Obj → List (Addr × Obj)) (c : Addr) (k₀ step : Int) (x : Str) (stored : List Str) (m₀ : Str → Option Value) (pre : List Int) : (Str → Option Value) → List (Addr × Obj) → Prop :=
  KstS (σ := Obj × Tok × Int × Obj) (fun c' => g c'.1 c'.2.2.2) (fun _ => []) (fun c' => c'.1.IsDictOf (PySem.strKind PySem.Challenge.rw_nz0011_01.row.prog w) (srcKV c c'.2.2.1 c'.2.1) ∧ ∃ v, c'.2.2.2.data = Data.cell v) x stored m₀ (fun pre c' => k₀ ≤ c'.2.2.1 ∧ c'.2.2.1 ≤ k₀ + step * (pre.length : Int)) pre
theorem src_range {w : World} {A : Around} {E : Value → Shared → Prop} {s : Shared} {env : Env} {h₀ : Heap} {x : Str} {body : List Stmt} {Q : Flow → Shared → Prop}
    {r d c k : Addr} {a₀ b₀ k₀ : Int} {t₀ u₀ v₀ tk₀ : Tok} {n : Nat} {m₀ : Str → Option Value} {o q : Obj} {v : Option Value} {news : List (Addr × Obj)} {g : Obj → Obj → List (Addr × Obj)} (step : Int) (stored : List Str)
    (hh : A.handled = none) (hr : IsRange s.heap r a₀ b₀ 1 t₀ u₀ v₀) (hsmall : Builtin.Range.small a₀ b₀ 1 = true) (hn : Builtin.Range.rangeSize a₀ b₀ 1 = (n : Int)) (F : Fr h₀ env.locals s.heap m₀) (N : News h₀ env.locals s.heap news)
    (_hk : env.cells.lookup (Str.ofString "known") = some k) (hD : o.IsDictOf (PySem.strKind PySem.Challenge.rw_nz0011_01.row.prog w) (srcKV c k₀ tk₀)) (U : Upd2 d k o q news g) (hq : q.data = .cell v)
    (turn : ∀ (o' : Obj) (t' : Tok) (k' : Int) (q' : Obj) (v' : Option Value) (pre : List Int) (kk : Int) t (u : Str → Option Value) h tk own, kk = a₀ + (pre.length : Int) → pre.length < n → OwnOff own ((g o q).map (·.1)) → o'.IsDictOf (PySem.strKind PySem.Challenge.rw_nz0011_01.row.prog w) (srcKV c k' t') → q'.data = .cell v' → k₀ ≤ k' → k' ≤ k₀ + step * (pre.length : Int) →
      Fr h₀ env.locals h (fun y => if y = x then some (.int kk t) else if stored.contains y then u y else m₀ y) → News h₀ env.locals h (g o' q' ++ own) →
      wpAny (model PySem.Challenge.rw_nz0011_01.row.prog w) A (execs body env) (InvPostN h₀ env.locals (SrcJ w g c k₀ step x stored m₀ (pre ++ [kk])) own ((g o q).map (·.1)) { s with heap := h, toks := tk } Q) E { s with heap := h, toks := tk })
    (done : ∀ (o' : Obj) (t' : Tok) (k' : Int) (q' : Obj) (v' : Option Value) (u : Str → Option Value) h tk, o'.IsDictOf (PySem.strKind PySem.Challenge.rw_nz0011_01.row.prog w) (srcKV c k' t') → q'.data = .cell v' → k₀ ≤ k' → k' ≤ k₀ + step * (n : Int) → Fr h₀ env.locals h (fun y => if y = x then u y else if stored.contains y then u y else m₀ y) → News h₀ env.locals h (g o' q') → Q .next { s with heap := h, toks := tk }) :
    wpAny (model PySem.Challenge.rw_nz0011_01.row.prog w) A (pyIter (.ref r)) (fun it s₂ => LoopAtV PySem.Challenge.rw_nz0011_01.row.prog w A h₀ env x body Q E it s₂) E s := by
  refine kst_range (σ := Obj × Tok × Int × Obj) (fun c' => g c'.1 c'.2.2.2) (fun _ => []) (fun c' => c'.1.IsDictOf (PySem.strKind PySem.Challenge.rw_nz0011_01.row.prog w) (srcKV c c'.2.2.1 c'.2.1) ∧ ∃ v, c'.2.2.2.data = Data.cell v) stored (fun pre c' => k₀ ≤ c'.2.2.1 ∧ c'.2.2.1 ≤ k₀ + step * (pre.length : Int)) (o, tk₀, k₀, q) hh hr hsmall hn F (by rw [U.eq]; exact N) ⟨hD, v, hq⟩ (fun _ hp => nomatch hp) ⟨Int.le_refl _, by simp⟩ ?_ ?_
  · rintro ⟨o', t', k', q'⟩ pre kk t u h tk own e1 e2 off ⟨hD', v', hq'⟩ ⟨h1, h2⟩ F' N'
    exact turn o' t' k' q' v' pre kk t u h tk own e1 e2 off hD' hq' h1 h2 F' N'
  · rintro ⟨o', t', k', q'⟩ u h tk ⟨hD', v', hq'⟩ ⟨h1, h2⟩ F' N'
    exact done o' t' k' q' v' u h tk hD' hq' h1 (by simpa [rangeKs_length] using h2) F' N'
theorem src_end {w : World} {g : Obj → Obj → List (Addr × Obj)} {c : Addr} {k₀ step k' kk : Int} {x : Str} {stored : List Str} {m₀ : Str → Option Value} {pre : List Int} {h₀ : Heap} {L : Addr} {m' : Str → Option Value} {own news' : List (Addr × Obj)} {adr : List Addr} {s₁ : Shared} {h' : Heap} {tk : Nat}
    {o' q' : Obj} {t' : Tok} {v' : Option Value} (F : Fr h₀ L h' m') (N : News h₀ L h' news') (hD : o'.IsDictOf (PySem.strKind PySem.Challenge.rw_nz0011_01.row.prog w) (srcKV c k' t')) (hq : q'.data = .cell v') (hn : ∀ p ∈ g o' q', p ∈ news') (ho : ∀ p ∈ own, p ∈ news') (ha : (g o' q').map (·.1) = adr)
    (h1 : k₀ ≤ k') (h2 : k' ≤ k₀ + step * ((pre.length : Int) + 1)) (hr : ∀ z, z ≠ x → (∀ p ∈ ([] : List (Str × Value)), z ≠ p.1) → stored.contains z = false → m' z = m₀ z) :
    InvEndN h₀ L (SrcJ w g c k₀ step x stored m₀ (pre ++ [kk])) own adr s₁ { s₁ with heap := h', toks := tk } :=
  kst_end (σ := Obj × Tok × Int × Obj) (o', t', k', q') F N hn ho ha ⟨hD, v', hq⟩ (fun _ hp => nomatch hp) hr ⟨h1, by simpa [List.length_append] using h2⟩
theorem src_endL {w : World} {g : Obj → Obj → List (Addr × Obj)} {c : Addr} {k₀ step k' kk : Int} {x : Str} {stored : List Str} {m₀ : Str → Option Value} {pre : List Int} {h₀ : Heap} {L L' : Addr} {m' : Str → Option Value} {own news' : List (Addr × Obj)} {adr : List Addr} {s₁ : Shared} {h' : Heap} {tk : Nat}
    {o' q' : Obj} {t' : Tok} {v' : Option Value} (F : Fr h₀ L' h' m') (N : News h₀ L' h' news') (hL : L' = L) (hD : o'.IsDictOf (PySem.strKind PySem.Challenge.rw_nz0011_01.row.prog w) (srcKV c k' t')) (hq : q'.data = .cell v') (hn : ∀ p ∈ g o' q', p ∈ news') (ho : ∀ p ∈ own, p ∈ news') (ha : (g o' q').map (·.1) = adr)
    (h1 : k₀ ≤ k') (h2 : k' ≤ k₀ + step * ((pre.length : Int) + 1)) (hr : ∀ z, z ≠ x → (∀ p ∈ ([] : List (Str × Value)), z ≠ p.1) → stored.contains z = false → m' z = m₀ z) :
    InvEndN h₀ L (SrcJ w g c k₀ step x stored m₀ (pre ++ [kk])) own adr s₁ { s₁ with heap := h', toks := tk } := by
  subst hL
  exact src_end F N hD hq hn ho ha h1 h2 hr
theorem cells_pos {ws : List Value} {f : Int → Int} {w : List Int} (_h : IntsAre ws (List.map f (List.take 50 w) ++ (List.replicate (if decide (w = []) = true then (1 : Int) else 0).toNat [(0 : Int)]).flatten)) : 1 ≤ (List.map f (List.take 50 w) ++ (List.replicate (if decide (w = []) = true then (1 : Int) else 0).toNat [(0 : Int)]).flatten).length := by
  cases w with
  | nil => simp
  | cons a t => simp only [List.take_succ_cons, List.map_cons, List.cons_append, List.length_cons]; omega
theorem cells_le {ws : List Value} {f : Int → Int} {w : List Int} (_h : IntsAre ws (List.map f (List.take 50 w) ++ (List.replicate (if decide (w = []) = true then (1 : Int) else 0).toNat [(0 : Int)]).flatten)) : (List.map f (List.take 50 w) ++ (List.replicate (if decide (w = []) = true then (1 : Int) else 0).toNat [(0 : Int)]).flatten).length ≤ 63 := by
  cases w with
  | nil => simp
  | cons a t => simp only [reduceCtorEq, decide_false, Bool.false_eq_true, if_false, Int.toNat_zero, List.replicate_zero, List.flatten_nil, List.append_nil, List.length_map, List.length_take]; omega
theorem news_c4 {h₀ h : Heap} {L : Addr} {a b1 b2 b3 b4 b5 : Addr × Obj} {r : List (Addr × Obj)} (N : News h₀ L h (a :: b1 :: b2 :: b3 :: b4 :: b5 :: r)) : News h₀ L h (a :: r) := fun p hp => N p (by
  rcases List.mem_cons.mp hp with rfl | hp
  · exact .head _
  · exact .tail _ (.tail _ (.tail _ (.tail _ (.tail _ (.tail _ hp))))))
end
section
section
variable {prog : Program} {w : World} {A : Around} {E : Value → Shared → Prop} {s : Shared} {h₀ : Heap} {L : Addr} {news : List (Addr × Obj)}
theorem eqv_ints (ns : List Int) : PyData.eqvAll (ns.map PyData.int) (ns.map PyData.int) = true := by rw [ked_eqvAll]; exact decide_eq_true rfl
theorem depth_ints (ns : List Int) : PyData.depthAll (ns.map PyData.int) ≤ 1 := by have := W.depthAll_ints ns; omega
theorem shaped_of {ds : List PyData} (h1 : PyData.canLayAll0 ds = true) (h2 : PyData.depthAll ds ≤ 60) : SeqAt.shaped (.tuple ds) = true := by
  have h3 : PyData.depth (.tuple ds) ≤ 64 := by simp only [PyData.depth]; omega
  show (PyData.canLay0 (.tuple ds) && decide (PyData.depth (.tuple ds) ≤ 64)) = true
  rw [Bool.and_eq_true]
  exact ⟨by simp only [PyData.canLay0]; exact h1, decide_eq_true h3⟩
theorem ne_alike {a b : Addr} {vs us : List Value} {ds : List PyData} {Q : Value → Shared → Prop} (N : News h₀ L s.heap news) (ha : (a, tupO vs) ∈ news) (hb : (b, tupO us) ∈ news) (ra : ReadsAll s.heap vs ds []) (rb : ReadsAll s.heap us ds [])
    (sh : SeqAt.shaped (.tuple ds) = true) (he : PyData.eqvAll ds ds = true) (hu : A.units + 64 < cLine) (h : Q (.bool false) s) : wpAny (model prog w) A (compareOp .NotEq (.ref a) (.ref b)) Q E s :=
  ne_dataH (.tuple (N _ ha).1 rfl rfl ra) (.tuple (N _ hb).1 rfl rfl rb) sh sh hu (by simp only [PyData.eqv]; rw [he]; exact h)
theorem ne_tups0 {l b : Addr} {vs us : List Value} {ns : List Int} {Q : Value → Shared → Prop} (N : News h₀ L s.heap news) (hl : (l, tupO vs) ∈ news) (hb : (b, tupO us) ∈ news) (hi : IntsAre vs ns) (hj : IntsAre us ns) (hu : A.units + 64 < cLine)
    (h : Q (.bool false) s) : wpAny (model prog w) A (compareOp .NotEq (.ref l) (.ref b)) Q E s :=
  ne_alike N hl hb (readsAll_of_ints hi) (readsAll_of_ints hj) (shaped_tup ns) (eqv_ints ns) hu h
end
end
section
section
variable {prog : Program} {w : World} {A : Around} {h₀ : Heap} {L : Addr} {m : Str → Option Value} {env : Env} {s : Shared} {E : Value → Shared → Prop}
/-- a comprehension's source that is a tuple of the ledger -/
def TupSrc (prog : Program) (w : World) (A : Around) (h₀ : Heap) (L : Addr) (m : Str → Option Value) (env : Env) (elt : Expr) (x : Str) (scope : Scope) (cl : List (Str × Addr)) (Fin : Shared → List Value → List (Addr × Obj) → Prop) (xv : Value) (s₁ : Shared) : Prop :=
  ∃ ax vs news, xv = .ref ax ∧ A.handled = none ∧ Fr h₀ L s₁.heap m ∧ News h₀ L s₁.heap news ∧ (ax, tupO vs) ∈ news ∧ vs.toArray.size ≤ sizeLine ∧
    ∀ g, LCg.CompRest prog w A h₀ L m env elt x scope cl { s₁ with heap := g } (fun nw => (ax, tupO vs) ∈ nw) (fun i v => vs.toArray[i]? = some v) (Fin { s₁ with heap := g }) vs.toArray.size 0 [] news
theorem TupSrc.intro {elt : Expr} {x : Str} {scope : Scope} {cl : List (Str × Addr)} {Fin : Shared → List Value → List (Addr × Obj) → Prop} {ax : Addr} {vs : List Value} {news : List (Addr × Obj)} {s₁ : Shared}
    (hh : A.handled = none) (F : Fr h₀ L s₁.heap m) (N : News h₀ L s₁.heap news) (hm : (ax, tupO vs) ∈ news) (hsz : vs.length ≤ 100)
    (h : ∀ g, LCg.CompRest prog w A h₀ L m env elt x scope cl { s₁ with heap := g } (fun nw => (ax, tupO vs) ∈ nw) (fun i v => vs.toArray[i]? = some v) (Fin { s₁ with heap := g }) vs.toArray.size 0 [] news) :
    TupSrc prog w A h₀ L m env elt x scope cl Fin (.ref ax) s₁ := ⟨ax, vs, news, rfl, hh, F, N, hm, (by rw [List.size_toArray, sizeLine_eq]; omega), h⟩
theorem tup_st {ax I : Addr} {vs : List Value} : ∀ i (h h' : Heap) (o : Obj) (nw : List (Addr × Obj)), (h.IsTupleIter I ax i ∧ h.IsTuple ax vs.toArray) → h.get? I = some o → h'.get? I = some o → (∀ b o, h₀.get? b = some o → h'.get? b = some o) → News h₀ L h' nw → (ax, tupO vs) ∈ nw → (h'.IsTupleIter I ax i ∧ h'.IsTuple ax vs.toArray) :=
  fun i h h' o nw st e e' _ N S => ⟨by obtain ⟨o', q, r⟩ := st.1; rw [e] at q; cases q; exact ⟨o, e', r⟩, ⟨_, (N _ S).1, rfl, 0, rfl⟩⟩
theorem assign_comp_tup {elt iter : Expr} {x y : Str} {px py : Pos} {scope : Scope} {cl : List (Str × Addr)} {pos spos : Pos} {Q : Flow → Shared → Prop} (F₀ : Fr h₀ L s.heap m) (hLe : env.locals = L)
    (hsw : swapsWith (.ListComp elt [⟨.Name x px, iter, [], 0⟩] scope pos) (some (.Name y py)) spos.line env = pure true)
    (hclos : closureFor scope env = pure cl) (hcell : ∀ z ∈ scope.names, z.2 ≠ .cell) (hkind : scope.kind = .function)
    (hnames : ∀ z ∈ scope.names, z.2 = .local → scope.names.lookup z.1 = some .local) (hx : scope.names.lookup x = some .local)
    (hy : env.kindOf y = some .local) (hp : (env.scope.kind == .class || (env.scope.kind == .module && env.locals != env.globals)) = false)
    (h : wpAny (model prog w) A (eval iter env) (TupSrc prog w A h₀ L m env elt x scope cl (fun s₂ => LCg.FinA h₀ L m s₂ y Q)) E s)
    (hs : ∀ x, foldedSetIterable iter env x = pure x) :
    wpAny (model prog w) A (exec (.Assign [.Name y py] (.ListComp elt [⟨.Name x px, iter, [], 0⟩] scope pos) spos) env) Q E s := by
  subst hLe
  rw [exec_Assign_Name_used _ _ _ _ hsw]
  refine wpAny_bind (wpAny_standAt (wpAny_bind ?_))
  show wpAny _ A (do let _ ← comprehension (.ListComp elt [⟨.Name x px, iter, [], 0⟩] scope pos) scope env _ (newList []) false (eval iter env) (some (assign (.Name y py) env))) _ _ s
  refine wpAny_bind (wpAny_mono (wpAny_comprehension_free (use := some (assign (.Name y py) env)) (Q := fun _ s' => Q .next s') rfl hs hclos hkind hnames
    (wpAny_mono h (fun xv s₁ h₁ => ?_) fun _ _ e => e)) (fun _ s' hq => wpAny_pure (wpAny_pure hq)) fun _ _ e => e)
  obtain ⟨ax, vs, news, rfl, hh, F, N, S, hsz, R⟩ := h₁
  have ht : s₁.heap.IsTuple ax vs.toArray := ⟨_, (N _ S).1, rfl, 0, rfl⟩
  have hlt : ax < s₁.heap.objs.size := Heap.lt_size (N _ S).1
  refine wpAny_pyIter_tuple ht ?_
  have up : ∀ b o, s₁.heap.get? b = some o → (s₁.heap.push { cls := .type "tuple_iterator", data := .fields #[.ref ax, .int 0 0] }).get? b = some o := fun b o e => Heap.get?_push_of_some _ e
  refine LCg.block_U (S := fun nw => (ax, tupO vs) ∈ nw) (Walks.tuple hh s₁.heap.objs.size ax (Nat.ne_of_lt hlt) vs.toArray) hsz (fun i h st => by obtain ⟨o, e, _⟩ := st.1; exact ⟨o, e⟩) tup_st hcell hkind hx ⟨⟨_, Heap.get?_push_size _ rfl, rfl, rfl⟩, ht.push _⟩ (fun b hb => ?_)
    (F.keeps up) (N.grown up) (Nat.ne_of_lt F.ns.lt) (next_is_new F) (fun p hp => Nat.ne_of_lt (Heap.lt_size (N p hp).1)) S (R _) ?_
  · show b < (s₁.heap.push _).objs.size
    rw [Heap.size_push]
    rcases List.mem_cons.mp hb with rfl | hb
    · exact Nat.lt_succ_self _
    · rw [List.mem_singleton.mp hb]; exact Nat.lt_succ_of_lt hlt
  · intro D C h' tk m' ys news' F' N' o1 hn hC₀ hD₀ hCL hDL hCD offC fin
    show wpAny _ A (assign (.Name y py) env (.ref D)) _ _ _
    refine wpAny_assign_Name (wpAny_storeName_local hy F'.ns (fun h₂ hn₂ hs₂ => ?_) hp)
    have hL₀ : h₀.get? env.locals = none := Heap.get?_none_of_le F'.above
    have F₂ : Fr h₀ env.locals h₂ (fun z => if z = y then some (.ref D) else m z) := ⟨hn₂, fun b o e => hs₂.extBut b o (fun q => by rw [q, hL₀] at e; cases e) (F'.keep b o e), F'.above⟩
    refine ⟨m', hn.sameBut hs₂ hCL, fun h'' hs'' => fin D h'' _ (F₂.change hs'' hCL hC₀) (fun p hp => ?_) o1⟩
    have z : h₂.get? p.1 = some p.2 := hs₂.extBut _ _ (N' p hp).2.1 (N' p hp).1
    refine ⟨hs''.extBut _ _ ?_ z, (N' p hp).2⟩
    rcases List.mem_cons.mp hp with rfl | hp
    · exact Ne.symm hCD
    · exact offC p hp
end
/-- what a comprehension that picks ints keeps -/
def PickJ (i : Nat) (ys : List Value) (_ : Unit) : Prop := ∃ ns, IntsAre ys ns ∧ ns.length = i
/-- a picked int -/
def Pick (news : List (Addr × Obj)) (y : Value) (news' : List (Addr × Obj)) : Prop := news' = news ∧ ∃ k t, y = .int k t
/-- a comprehension over a tuple of spots that reads out of a list -/
theorem comp_pick {prog : Program} {w : World} {A : Around} {h₀ : Heap} {L : Addr} {m : Str → Option Value} {env : Env} {elt : Expr} {x : Str} {scope : Scope} {cl : List (Str × Addr)} {s : Shared} {S : List (Addr × Obj) → Prop} {Fin : List Value → List (Addr × Obj) → Prop} {news : List (Addr × Obj)}
    {vs : List Value} {rs : List Int} (hi : IntsAre vs rs) (hr : ∀ r ∈ rs, 0 ≤ r ∧ r < 4)
    (turn : ∀ k t I oI C oC D m₂ ys h tk (E' : Value → Shared → Prop), 0 ≤ k → k < 4 → LCg.NsObj oC m₂ → m₂ x = some (.int k t) → Fr h₀ L h m → News h₀ L h ((I, oI) :: (C, oC) :: (D, LCg.lst ys) :: news) → LCg.Off3 I C D news → ((@Ne Nat I C) ∧ (@Ne Nat I D) ∧ (@Ne Nat C D)) →
      wpAny (model prog w) A (eval elt (compEnvC scope cl C env)) (LCg.CompEnd h₀ L m { s with heap := h, toks := tk } I oI C oC D (LCg.lst ys) S (Pick news)) E' { s with heap := h, toks := tk })
    (fin : ∀ ys ns, IntsAre ys ns → ns.length = rs.length → Fin ys news) : LCg.CompRest prog w A h₀ L m env elt x scope cl s S (fun i v => vs.toArray[i]? = some v) Fin vs.toArray.size 0 [] news := by
  refine comp_inv (σ := Unit) (fun _ => news) PickJ () ⟨[], .nil, rfl⟩ ?_ ?_
  · rintro i _ ys v I oI C oC D m₂ h tk E' _ hv ⟨ns, hns, hl⟩ hC hx F N off ne
    obtain ⟨k, t, e, hk⟩ := IntsAre.at hi i v (by simpa using hv)
    subst e
    have hb := hr k (List.mem_of_getElem? hk)
    refine wpAny_mono (turn k t I oI C oC D m₂ ys h tk E' hb.1 hb.2 hC hx F N off ne) (fun y s₂ hq => ?_) fun _ _ e => e
    obtain ⟨h', tk', nw, e, F', N', off', hS, hn, k', t', hy⟩ := hq
    rw [hn] at N' off' hS
    refine ⟨h', tk', news, e, F', N', off', hS, (), rfl, ns ++ [k'], ?_, by simp [hl]⟩
    rw [hy]; exact IntsAre.append hns (.cons k' t' .nil)
  · rintro ys _ ⟨ns, hns, hl⟩
    exact fin ys ns hns (by rw [hl, List.size_toArray]; exact hi.length)
theorem compEnd_pick {h₀ : Heap} {L : Addr} {m : Str → Option Value} {s₁ : Shared} {I C D : Addr} {oI oC oD : Obj} {S : List (Addr × Obj) → Prop} {news : List (Addr × Obj)} {r : Int} {tt : Tok} {h' : Heap} {tk : Nat}
    (F : Fr h₀ L h' m) (N : News h₀ L h' ((I, oI) :: (C, oC) :: (D, oD) :: news)) (off : LCg.Off3 I C D news) (hS : S news) :
    LCg.CompEnd h₀ L m s₁ I oI C oC D oD S (Pick news) (.int r tt) { s₁ with heap := h', toks := tk } :=
  LCg.CompEnd.intro F N news (fun _ h => h) off hS ⟨rfl, r, tt, rfl⟩
theorem tup_len {vs : List Value} {ns : List Int} {k : Nat} (h : IntsAre vs ns) (hl : ns.length ≤ k) : vs.length ≤ k := by rw [h.length]; exact hl
theorem ne_bool_same {prog : Program} {w : World} {A : Around} {E : Value → Shared → Prop} {s : Shared} {Q : Value → Shared → Prop} {b : Bool} (h : Q (.bool false) s) : wpAny (model prog w) A (compareOp .NotEq (.bool b) (.bool b)) Q E s :=
  ne_bool (by rw [bne_self_eq_false]; exact h)
end
section
/-- an entry that is apart from an object of a kind, by its address or by its kind -/
def Ap (bad : Obj → Prop) (d : Addr) (p : Addr × Obj) : Prop := p.1 ≠ d ∨ ¬ bad p.2
def IsDc (o : Obj) : Prop := ∃ es n, o.data = Data.dict es n
def IsCl (o : Obj) : Prop := ∃ v, o.data = Data.cell v
theorem Ap.ad {bad : Obj → Prop} {d : Addr} {p : Addr × Obj} (h : p.1 ≠ d) : Ap bad d p := .inl h
theorem Ap.tup {d a : Addr} {vs : Array Value} {n : Nat} : Ap IsDc d (a, ({ cls := .type "tuple", data := .seq vs n } : Obj)) := .inr fun ⟨_, _, h⟩ => nomatch h
theorem Ap.lst {d a : Addr} {vs : Array Value} {n : Nat} : Ap IsDc d (a, listOf vs n) := .inr fun ⟨_, _, h⟩ => nomatch h
theorem Ap.inst {d a c x : Addr} : Ap IsDc d (a, instObj c x) := .inr fun ⟨_, _, h⟩ => nomatch h
theorem Ap.cell {d a : Addr} {q : Obj} {v : Option Value} (h : q.data = .cell v) : Ap IsDc d (a, q) := .inr fun ⟨_, _, e⟩ => nomatch (h.symm.trans e)
theorem ApC.tup {d a : Addr} {vs : Array Value} {n : Nat} : Ap IsCl d (a, ({ cls := .type "tuple", data := .seq vs n } : Obj)) := .inr fun ⟨_, h⟩ => nomatch h
theorem ApC.lst {d a : Addr} {vs : Array Value} {n : Nat} : Ap IsCl d (a, listOf vs n) := .inr fun ⟨_, h⟩ => nomatch h
theorem ApC.inst {d a c x : Addr} : Ap IsCl d (a, instObj c x) := .inr fun ⟨_, h⟩ => nomatch h
theorem ApC.dct {d a : Addr} {es : List DictEntry} {n : Nat} : Ap IsCl d (a, dictOf es n) := .inr fun ⟨_, h⟩ => nomatch h
theorem IsDc.of {w : World} {o : Obj} {kvs : List (Str × Value)} (hD : o.IsDictOf (PySem.strKind PySem.Challenge.rw_nz0011_01.row.prog w) kvs) : IsDc o := by
  obtain ⟨es, ep, _, hh, _⟩ := hD
  exact ⟨_, _, hh⟩
theorem ApC.src {w : World} {d a : Addr} {o : Obj} {kvs : List (Str × Value)} (hD : o.IsDictOf (PySem.strKind PySem.Challenge.rw_nz0011_01.row.prog w) kvs) : Ap IsCl d (a, o) := .inr fun ⟨_, h⟩ => by
  obtain ⟨es, ep, _, hh, _⟩ := hD
  exact nomatch (hh.symm.trans h)
def Kept (p : Prop) : Prop := p
theorem Kept.mk {p : Prop} (h : p) : Kept p := h
theorem Kept.out {p : Prop} (h : Kept p) : p := h
theorem Ap.dk {d a : Addr} {es : List DictEntry} {n : Nat} (h : a ≠ d) : Ap IsDc d (a, dictOf es n) := .inl h
inductive AllAp (bad : Obj → Prop) (d : Addr) : List (Addr × Obj) → Prop
  | nil : AllAp bad d []
  | cons {p r} : Ap bad d p → AllAp bad d r → AllAp bad d (p :: r)
  | app {p r} : AllAp bad d p → AllAp bad d r → AllAp bad d (p ++ r)
  | rest {r} : (∀ p ∈ r, p.1 ≠ d) → AllAp bad d r
  | kind {r} : (∀ p ∈ r, ¬ bad p.2) → AllAp bad d r
theorem AllAp.all {bad : Obj → Prop} {d : Addr} {l : List (Addr × Obj)} (h : AllAp bad d l) : ∀ p ∈ l, Ap bad d p := by
  induction h with
  | nil => exact fun _ h => nomatch h
  | cons a _ ih =>
    intro p hp
    rcases List.mem_cons.mp hp with rfl | hp
    · exact a
    · exact ih p hp
  | app _ _ ih ih' => exact fun p hp => (List.mem_append.mp hp).elim (ih p) (ih' p)
  | rest h => exact fun p hp => .inl (h p hp)
  | kind h => exact fun p hp => .inr (h p hp)
inductive PreU (bad : Obj → Prop) (d : Addr) (o : Obj) : List (Addr × Obj) → (Obj → List (Addr × Obj)) → Prop
  | head {r} : AllAp bad d r → PreU bad d o ((d, o) :: r) (fun o' => (d, o') :: r)
  | tail {p r g} : Ap bad d p → PreU bad d o r g → PreU bad d o (p :: r) (fun o' => p :: g o')
theorem PreU.mem {bad : Obj → Prop} {d : Addr} {o : Obj} {l : List (Addr × Obj)} {g : Obj → List (Addr × Obj)} (h : PreU bad d o l g) : (d, o) ∈ l := by
  induction h with
  | head _ => exact .head _
  | tail _ _ ih => exact .tail _ ih
theorem ap_off {bad : Obj → Prop} {h₀ h : Heap} {L d : Addr} {o : Obj} {p : Addr × Obj} {news : List (Addr × Obj)} (N : News h₀ L h news) (hd : (d, o) ∈ news) (hb : bad o) (hp : p ∈ news) (h : Ap bad d p) : p.1 ≠ d := by
  refine h.elim id fun hc e => hc ?_
  have h1 := (N _ hp).1
  have h2 := (N _ hd).1
  rw [e, h2] at h1
  rw [← Option.some.inj h1]
  exact hb
theorem PreU.upd {bad : Obj → Prop} {h₀ h : Heap} {L d : Addr} {o : Obj} {news : List (Addr × Obj)} {g : Obj → List (Addr × Obj)} (P : PreU bad d o news g) (N : News h₀ L h news) (hb : bad o) : UpdF d o news g := by
  induction P with
  | head ha => exact .head fun p hp => ap_off N (.head _) hb (.tail _ hp) (ha.all p hp)
  | tail a P ih => exact .tail (ap_off N (.tail _ P.mem) hb (.head _) a) (ih fun p hp => N p (.tail _ hp))
theorem src_ne {w : World} {h₀ h : Heap} {L c d : Addr} {o : Obj} {news : List (Addr × Obj)} {kvs : List (Str × Value)} {ws : Array Value} {n : Nat} (hD : o.IsDictOf (PySem.strKind PySem.Challenge.rw_nz0011_01.row.prog w) kvs) (N : News h₀ L h news) (hd : (d, o) ∈ news) (hc : (c, listOf ws n) ∈ news) : c ≠ d :=
  ap_off N hd (IsDc.of hD) hc Ap.lst
theorem src_off {w : World} {d : Addr} {o : Obj} {news Xr : List (Addr × Obj)} {kvs : List (Str × Value)} (_hD : o.IsDictOf (PySem.strKind PySem.Challenge.rw_nz0011_01.row.prog w) kvs) (hm : (d, o) ∈ news) (h : ∀ q ∈ news, ∀ e ∈ Xr, e.1 ≠ q.1) : ∀ e ∈ Xr, e.1 ≠ d := h _ hm
end
section
/-- the four drawn kinds as one -/
inductive Way
  | inc
  | prec (a b : Int)
  | lex (st : Bool) (k : Nat)
noncomputable def Way.keeps : Way → List Int → Bool
  | .inc, ns => incB ns
  | .prec a b, ns => precB a b ns
  | .lex st k, ns => lexKeeps (ns.take k) (ns.drop k) st
/-- the ledger X bears the plain data T of a constraint over the ints ns -/
inductive ToldIn (X : List (Addr × Obj)) : Way → Addr → Addr → List Int → Prop
  | inc {T S ns tks} : (T, tupO [.str (Str.ofString "increasing") tks, .ref S]) ∈ X → ns.length ≤ 3 → ToldIn X .inc T S ns
  | prec {T S ns tks a b ta tb} : (T, tupO [.str (Str.ofString "precede") tks, .int a ta, .int b tb, .ref S]) ∈ X → ns.length ≤ 3 → ToldIn X (.prec a b) T S ns
  | lex {st k T S ns x y vs us rs qs tks} : (T, tupO [.str (lexNm st) tks, .ref x, .ref y]) ∈ X → (y, tupO us) ∈ X → (x, tupO vs) ∈ X → IntsAre vs rs → rs.length ≤ 3 → IntsAre us qs → qs.length ≤ 3 → k = rs.length → ns = rs ++ qs → ToldIn X (.lex st k) T S ns
/-- the ledger X bears what is made of it: the rule r with the scope z -/
inductive RuleIn (w : World) (X : List (Addr × Obj)) : Way → Addr → Addr → Prop
  | inc {r z dx t1 t2 t3 t4 t5} : (r, instObj 159 dx) ∈ X → (dx, dictOf [({ hash := PyData.keyHash w.params (Str.ofString "number"), key := .str (Str.ofString "number") t1, val := .int (-1) t2 } : DictEntry), ({ hash := PyData.keyHash w.params (Str.ofString "scope"), key := .str (Str.ofString "scope") t3, val := .ref z } : DictEntry), ({ hash := PyData.keyHash w.params (Str.ofString "strength"), key := .str (Str.ofString "strength") t4, val := .str (Str.ofString "bounds") t5 } : DictEntry)] 3) ∈ X → RuleIn w X .inc r z
  | prec {r z dx t1 t2 t3 t4 t5 t6 t7 a b ta tb} : (r, instObj 215 dx) ∈ X → (dx, dictOf [({ hash := PyData.keyHash w.params (Str.ofString "number"), key := .str (Str.ofString "number") t1, val := .int (-1) t2 } : DictEntry), ({ hash := PyData.keyHash w.params (Str.ofString "scope"), key := .str (Str.ofString "scope") t3, val := .ref z } : DictEntry), ({ hash := PyData.keyHash w.params (Str.ofString "strength"), key := .str (Str.ofString "strength") t4, val := .str (Str.ofString "values") t5 } : DictEntry), ({ hash := PyData.keyHash w.params (Str.ofString "s"), key := .str (Str.ofString "s") t6, val := .int a ta } : DictEntry), ({ hash := PyData.keyHash w.params (Str.ofString "t"), key := .str (Str.ofString "t") t7, val := .int b tb } : DictEntry)] 5) ∈ X → RuleIn w X (.prec a b) r z
  | lex {st k r z dx D sa t1 t2 t3 t4 t5 t6 t7 t8 t9 ta} : (r, instObj 117 dx) ∈ X → (dx, dictOf [({ hash := PyData.keyHash w.params (Str.ofString "number"), key := .str (Str.ofString "number") t1, val := .int (-1) t2 } : DictEntry), ({ hash := PyData.keyHash w.params (Str.ofString "scope"), key := .str (Str.ofString "scope") t3, val := .ref z } : DictEntry), ({ hash := PyData.keyHash w.params (Str.ofString "strength"), key := .str (Str.ofString "strength") t4, val := .str (Str.ofString "values") t5 } : DictEntry), ({ hash := PyData.keyHash w.params (Str.ofString "pairs"), key := .str (Str.ofString "pairs") t6, val := .ref D } : DictEntry), ({ hash := PyData.keyHash w.params (Str.ofString "many"), key := .str (Str.ofString "many") t7, val := .int (k : Nat) t8 } : DictEntry), ({ hash := PyData.keyHash w.params (Str.ofString "is_strict"), key := .str (Str.ofString "is_strict") t9, val := .bool st } : DictEntry), ({ hash := PyData.keyHash w.params (Str.ofString "stands_alike"), key := .str (Str.ofString "stands_alike") ta, val := .bool sa } : DictEntry)] 7) ∈ X → RuleIn w X (.lex st k) r z
theorem allLt_all {d : Nat} : ∀ {l : List (Addr × Obj)}, AllLt d l → ∀ p ∈ l, @LT.lt Nat _ p.1 d
  | [], _, _, hp => nomatch hp
  | _ :: _, h, p, hp => by
    rcases List.mem_cons.mp hp with rfl | hp
    · exact h.1
    · exact allLt_all h.2 p hp
theorem news_mono {h₀ h : Heap} {L : Addr} {news more : List (Addr × Obj)} (N : News h₀ L h news) (hs : ∀ e ∈ more, e ∈ news) : News h₀ L h more := fun p hp => N p (hs p hp)
theorem all1 {α : Type} {P : α → Prop} {a : α} (h : P a) : ∀ e ∈ [a], P e := fun e he => by rcases List.mem_singleton.mp he with rfl; exact h
theorem all2 {α : Type} {P : α → Prop} {a b : α} (h : P a) (h' : P b) : ∀ e ∈ [a, b], P e := fun e he => by
  rcases List.mem_cons.mp he with rfl | he
  · exact h
  · exact all1 h' e he
theorem all3 {α : Type} {P : α → Prop} {a b c : α} (h : P a) (h' : P b) (h'' : P c) : ∀ e ∈ [a, b, c], P e := fun e he => by
  rcases List.mem_cons.mp he with rfl | he
  · exact h
  · exact all2 h' h'' e he
theorem noCl_tup {a : Addr} {vs : List Value} : ¬ IsCl (a, tupO vs).2 := fun ⟨_, h⟩ => nomatch h
theorem noCl_inst {a C d : Addr} : ¬ IsCl (a, instObj C d).2 := fun ⟨_, h⟩ => nomatch h
theorem noCl_dct {a : Addr} {es : List DictEntry} {n : Nat} : ¬ IsCl (a, dictOf es n).2 := fun ⟨_, h⟩ => nomatch h
theorem told_g {w : World} {mean : ExcName → Option Value} {mg mb : Str → Option Value} {dp un : Nat} {gd : Option (List Code)} {cn : Str} {cs : Scope} {a : Addr} {ccd : Value} {cl : List (Str × Addr)} {outer : List Env} {A₀ : Around} {base h₀ : Heap} {L : Addr} {m : Str → Option Value} {s : Shared} {Q E : Value → Shared → Prop}
    {d c : Addr} {o : Obj} {news : List (Addr × Obj)} {g : Obj → List (Addr × Obj)} {k : Int} {tk : Tok} {ws : List Value} {ns : List Int} {n : Nat}
    (B : Below A₀ base outer h₀) (F : Fr h₀ L s.heap m) (X : (hd.heap_39 w.params).In h₀) (N : News h₀ L s.heap news) (T : Top hd.view_39 (looseW hd.view_39 []) mean mg mb h₀) (hk : cs.kind = .function)
    (U : UpdF d o news g) (hD : o.IsDictOf (PySem.strKind PySem.Challenge.rw_nz0011_01.row.prog w) (srcKV c k tk)) (hc : (c, listOf ws.toArray n) ∈ news) (hcd : c ≠ d) (hI : IntsAre ws ns) (hl1 : 1 ≤ ns.length) (hl2 : ns.length ≤ 63) (hk0 : 0 ≤ k) (hk1 : k ≤ 800)
    (hdp : dp + 5 < recursionLimit)
    (ret : ∀ W p T S vs rs Xt k' t' o' h' tk', ToldIn Xt W T S rs → News h₀ L h' ((p, tupO [.ref T, .ref S]) :: (S, tupO vs) :: (g o' ++ Xt)) → (∀ e ∈ Xt, e.1 ≠ d) → (∀ e ∈ Xt, ¬ IsCl e.2) → o'.IsDictOf (PySem.strKind PySem.Challenge.rw_nz0011_01.row.prog w) (srcKV c k' t') → IntsAre vs rs → rs.length ≤ 6 → (∀ r ∈ rs, 0 ≤ r ∧ r < 4) → k ≤ k' → k' ≤ k + 12 → Fr h₀ L h' m → Q (.ref p) { s with heap := h', toks := tk' }) :
    wpAny (model PySem.Challenge.rw_nz0011_01.row.prog w) (ktrTop dp un gd cn cs L a ccd cl outer) (call (.ref 248) [.ref d]) Q E s := by
  refine told_use B F X N T hk U hD hc hcd hI hl1 hl2 hk0 hk1 hdp ?_ ?_ ?_ ?_
  · intro p T x vs rs tks k' t' o' h' tk' N' hD' i1 i2 i3 h1 h2 n1 n2 n3 F'
    refine ret .inc p T x vs rs [(T, tupO [.str (Str.ofString "increasing") tks, .ref x])] k' t' o' h' tk' (.inc (.head _) i2) (news_mono N' fun e he => ?_) (all1 n2) (all1 noCl_tup) hD' i1 (by omega) i3 h1 h2 F'
    rcases List.mem_cons.mp he with rfl | he
    · exact .head _
    rcases List.mem_cons.mp he with rfl | he
    · exact .tail _ (.tail _ (.head _))
    rcases List.mem_append.mp he with he | he
    · exact .tail _ (.tail _ (.tail _ he))
    · exact List.mem_singleton.mp he ▸ .tail _ (.head _)
  · intro p T x vs rs a ta b tb tks k' t' o' h' tk' N' hD' i1 i2 i3 _ _ _ _ h1 h2 n1 n2 n3 F'
    refine ret (.prec a b) p T x vs rs [(T, tupO [.str (Str.ofString "precede") tks, .int a ta, .int b tb, .ref x])] k' t' o' h' tk' (.prec (.head _) i2) (news_mono N' fun e he => ?_) (all1 n2) (all1 noCl_tup) hD' i1 (by omega) i3 h1 h2 F'
    rcases List.mem_cons.mp he with rfl | he
    · exact .head _
    rcases List.mem_cons.mp he with rfl | he
    · exact .tail _ (.tail _ (.head _))
    rcases List.mem_append.mp he with he | he
    · exact .tail _ (.tail _ (.tail _ he))
    · exact List.mem_singleton.mp he ▸ .tail _ (.head _)
  · intro p T z x y vs rs us qs tks k' t' o' h' tk' N' hD' i1 i2 i3 j1 j2 j3 ij h1 h2 n1 n2 n3 n4 n5 F'
    refine ret (.lex false rs.length) p T z (vs ++ us) (rs ++ qs) [(T, tupO [.str (Str.ofString "lex_le") tks, .ref x, .ref y]), (y, tupO us), (x, tupO vs)] k' t' o' h' tk' (.lex (.head _) (.tail _ (.head _)) (.tail _ (.tail _ (.head _))) i1 i2 j1 j2 rfl rfl) (news_mono N' fun e he => ?_) (all3 n4 n2 n1) (all3 noCl_tup noCl_tup noCl_tup) hD' ij (by rw [List.length_append]; omega) (List.forall_mem_append.mpr ⟨i3, j3⟩) h1 h2 F'
    rcases List.mem_cons.mp he with rfl | he
    · exact .head _
    rcases List.mem_cons.mp he with rfl | he
    · exact .tail _ (.head _)
    rcases List.mem_append.mp he with he | he
    · exact .tail _ (.tail _ (.tail _ (.tail _ (.tail _ he))))
    · exact .tail _ (.tail _ (List.mem_append_left (g o') he))
  · intro p T z x y vs rs us qs tks k' t' o' h' tk' N' hD' i1 i2 i3 j1 j2 j3 ij h1 h2 n1 n2 n3 n4 n5 F'
    refine ret (.lex true rs.length) p T z (vs ++ us) (rs ++ qs) [(T, tupO [.str (Str.ofString "lex_lt") tks, .ref x, .ref y]), (y, tupO us), (x, tupO vs)] k' t' o' h' tk' (.lex (.head _) (.tail _ (.head _)) (.tail _ (.tail _ (.head _))) i1 i2 j1 j2 rfl rfl) (news_mono N' fun e he => ?_) (all3 n4 n2 n1) (all3 noCl_tup noCl_tup noCl_tup) hD' ij (by rw [List.length_append]; omega) (List.forall_mem_append.mpr ⟨i3, j3⟩) h1 h2 F'
    rcases List.mem_cons.mp he with rfl | he
    · exact .head _
    rcases List.mem_cons.mp he with rfl | he
    · exact .tail _ (.head _)
    rcases List.mem_append.mp he with he | he
    · exact .tail _ (.tail _ (.tail _ (.tail _ (.tail _ he))))
    · exact .tail _ (.tail _ (List.mem_append_left (g o') he))
theorem ord_g {w : World} {mean : ExcName → Option Value} {mg mb : Str → Option Value} {dp un : Nat} {gd : Option (List Code)} {cn : Str} {cs : Scope} {a : Addr} {ccd : Value} {cl : List (Str × Addr)} {outer : List Env} {A₀ : Around} {base h₀ : Heap} {L : Addr} {m : Str → Option Value} {s : Shared} {Q E : Value → Shared → Prop}
    {W : Way} {T S : Addr} {news Xt : List (Addr × Obj)} {vs : List Value} {rs : List Int}
    (B : Below A₀ base outer h₀) (F : Fr h₀ L s.heap m) (X : (hd.heap_39 w.params).In h₀) (N : News h₀ L s.heap news) (Tp : Top hd.view_39 (looseW hd.view_39 []) mean mg mb h₀) (hk : cs.kind = .function)
    (ht : ToldIn Xt W T S rs) (hs : ∀ e ∈ Xt, e ∈ news) (hS : (S, tupO vs) ∈ news) (hI : IntsAre vs rs) (hdp : dp + 5 < recursionLimit) (hun : un + 40 < cLine)
    (hret : ∀ r z zs Xr h' tk', RuleIn w Xr W r z → IntsAre zs rs → News h₀ L h' ((z, tupO zs) :: (news ++ Xr)) → (∀ e ∈ Xr, ¬ IsCl e.2) → (∀ q ∈ news, ∀ e ∈ Xr, e.1 ≠ q.1) → Fr h₀ L h' m → Q (.ref r) { s with heap := h', toks := tk' }) :
    wpAny (model PySem.Challenge.rw_nz0011_01.row.prog w) (ktrTop dp un gd cn cs L a ccd cl outer) (call (.ref 224) [.ref T]) Q E s := by
  cases ht with
  | inc h i2 =>
    refine ord0_tells (rest := news) B F X (news_put N (hs _ h) (news_put N hS N)) Tp hk hI i2 hdp hun fun r dx t1 t2 t3 t4 t5 h' tk' N' F' l => ?_
    refine hret r S vs [(r, instObj 159 dx), (dx, dictOf [({ hash := PyData.keyHash w.params (Str.ofString "number"), key := .str (Str.ofString "number") t1, val := .int (-1) t2 } : DictEntry), ({ hash := PyData.keyHash w.params (Str.ofString "scope"), key := .str (Str.ofString "scope") t3, val := .ref S } : DictEntry), ({ hash := PyData.keyHash w.params (Str.ofString "strength"), key := .str (Str.ofString "strength") t4, val := .str (Str.ofString "bounds") t5 } : DictEntry)] 3)] h' tk' (.inc (.head _) (.tail _ (.head _))) hI (news_mono N' fun e he => ?_) (all2 noCl_inst noCl_dct) (fun q hq => all2 (Nat.ne_of_gt (Nat.lt_trans (allLt_all l.2.2.2 q hq) l.1)) (Nat.ne_of_gt (allLt_all l.2.2.2 q hq))) F'
    rcases List.mem_cons.mp he with rfl | he
    · exact .tail _ (.tail _ (.tail _ (.tail _ hS)))
    rcases List.mem_append.mp he with he | he
    · exact .tail _ (.tail _ (.tail _ (.tail _ he)))
    · exact List.mem_append_left _ he
  | prec h i2 =>
    rename_i tks a b ta tb
    refine ord1_tells (rest := news) B F X (news_put N (hs _ h) (news_put N hS N)) Tp hk hI i2 hdp hun fun r dx t1 t2 t3 t4 t5 t6 t7 h' tk' N' F' l => ?_
    refine hret r S vs [(r, instObj 215 dx), (dx, dictOf [({ hash := PyData.keyHash w.params (Str.ofString "number"), key := .str (Str.ofString "number") t1, val := .int (-1) t2 } : DictEntry), ({ hash := PyData.keyHash w.params (Str.ofString "scope"), key := .str (Str.ofString "scope") t3, val := .ref S } : DictEntry), ({ hash := PyData.keyHash w.params (Str.ofString "strength"), key := .str (Str.ofString "strength") t4, val := .str (Str.ofString "values") t5 } : DictEntry), ({ hash := PyData.keyHash w.params (Str.ofString "s"), key := .str (Str.ofString "s") t6, val := .int a ta } : DictEntry), ({ hash := PyData.keyHash w.params (Str.ofString "t"), key := .str (Str.ofString "t") t7, val := .int b tb } : DictEntry)] 5)] h' tk' (.prec (.head _) (.tail _ (.head _))) hI (news_mono N' fun e he => ?_) (all2 noCl_inst noCl_dct) (fun q hq => all2 (Nat.ne_of_gt (Nat.lt_trans (allLt_all l.2.2.2 q hq) l.1)) (Nat.ne_of_gt (allLt_all l.2.2.2 q hq))) F'
    rcases List.mem_cons.mp he with rfl | he
    · exact .tail _ (.tail _ (.tail _ (.tail _ hS)))
    rcases List.mem_append.mp he with he | he
    · exact .tail _ (.tail _ (.tail _ (.tail _ he)))
    · exact List.mem_append_left _ he
  | lex h hy hx i1 i2 j1 j2 e1 e2 =>
    rename_i st k x y vs us rs qs tks
    subst e1 e2
    have fin : ∀ r dx z D sa t1 t2 t3 t4 t5 t6 t7 t8 t9 ta h' tk', News h₀ L h' ((z, tupO (vs ++ us)) :: (r, instObj 117 dx) :: (dx, dictOf [({ hash := PyData.keyHash w.params (Str.ofString "number"), key := .str (Str.ofString "number") t1, val := .int (-1) t2 } : DictEntry), ({ hash := PyData.keyHash w.params (Str.ofString "scope"), key := .str (Str.ofString "scope") t3, val := .ref z } : DictEntry), ({ hash := PyData.keyHash w.params (Str.ofString "strength"), key := .str (Str.ofString "strength") t4, val := .str (Str.ofString "values") t5 } : DictEntry), ({ hash := PyData.keyHash w.params (Str.ofString "pairs"), key := .str (Str.ofString "pairs") t6, val := .ref D } : DictEntry), ({ hash := PyData.keyHash w.params (Str.ofString "many"), key := .str (Str.ofString "many") t7, val := .int (rs.length : Nat) t8 } : DictEntry), ({ hash := PyData.keyHash w.params (Str.ofString "is_strict"), key := .str (Str.ofString "is_strict") t9, val := .bool st } : DictEntry), ({ hash := PyData.keyHash w.params (Str.ofString "stands_alike"), key := .str (Str.ofString "stands_alike") ta, val := .bool sa } : DictEntry)] 7) :: (T, tupO [.str (lexNm st) tks, .ref x, .ref y]) :: (y, tupO us) :: (x, tupO vs) :: news) → Fr h₀ L h' m → @Ne Nat z dx → (@LT.lt Nat _ dx r ∧ @LT.lt Nat _ T dx ∧ @LT.lt Nat _ y dx ∧ @LT.lt Nat _ x dx ∧ AllLt dx news) → Q (.ref r) { s with heap := h', toks := tk' } := by
      intro r dx z D sa t1 t2 t3 t4 t5 t6 t7 t8 t9 ta h' tk' N' F' _ l
      refine hret r z (vs ++ us) [(r, instObj 117 dx), (dx, dictOf [({ hash := PyData.keyHash w.params (Str.ofString "number"), key := .str (Str.ofString "number") t1, val := .int (-1) t2 } : DictEntry), ({ hash := PyData.keyHash w.params (Str.ofString "scope"), key := .str (Str.ofString "scope") t3, val := .ref z } : DictEntry), ({ hash := PyData.keyHash w.params (Str.ofString "strength"), key := .str (Str.ofString "strength") t4, val := .str (Str.ofString "values") t5 } : DictEntry), ({ hash := PyData.keyHash w.params (Str.ofString "pairs"), key := .str (Str.ofString "pairs") t6, val := .ref D } : DictEntry), ({ hash := PyData.keyHash w.params (Str.ofString "many"), key := .str (Str.ofString "many") t7, val := .int (rs.length : Nat) t8 } : DictEntry), ({ hash := PyData.keyHash w.params (Str.ofString "is_strict"), key := .str (Str.ofString "is_strict") t9, val := .bool st } : DictEntry), ({ hash := PyData.keyHash w.params (Str.ofString "stands_alike"), key := .str (Str.ofString "stands_alike") ta, val := .bool sa } : DictEntry)] 7)] h' tk' (.lex (.head _) (.tail _ (.head _))) (i1.append j1) (news_mono N' fun e he => ?_) (all2 noCl_inst noCl_dct) (fun q hq => all2 (Nat.ne_of_gt (Nat.lt_trans (allLt_all l.2.2.2.2 q hq) l.1)) (Nat.ne_of_gt (allLt_all l.2.2.2.2 q hq))) F'
      rcases List.mem_cons.mp he with rfl | he
      · exact .head _
      rcases List.mem_append.mp he with he | he
      · exact .tail _ (.tail _ (.tail _ (.tail _ (.tail _ (.tail _ he)))))
      · exact .tail _ (List.mem_append_left _ he)
    exact ord2_tells (rest := news) B F X (news_put N (hs _ h) (news_put N (hs _ hy) (news_put N (hs _ hx) N))) Tp hk i1 i2 j1 j2 hdp hun fin
end
section
noncomputable def Way.fT : Way → Addr
  | .inc => 156
  | .prec _ _ => 212
  | .lex _ _ => 114
noncomputable def Way.fC : Way → Addr
  | .inc => 149
  | .prec _ _ => 205
  | .lex _ _ => 107
theorem attr_scope {w : World} {dp un : Nat} {gd : Option (List Code)} {cn : Str} {cs : Scope} {a : Addr} {ccd : Value} {cl : List (Str × Addr)} {outer : List Env} {h₀ : Heap} {L : Addr} {m : Str → Option Value} {s : Shared} {E : Value → Shared → Prop} {Q : Value → Shared → Prop}
    {W : Way} {r z : Addr} {news Xr : List (Addr × Obj)} {pl : Bool}
    (F : Fr h₀ L s.heap m) (X : (hd.heap_39 w.params).In h₀) (N : News h₀ L s.heap news) (R : RuleIn w Xr W r z) (hs : ∀ e ∈ Xr, e ∈ news)
    (h : Q (.ref z) { s with toks := s.toks + 1 }) :
    wpAny (model PySem.Challenge.rw_nz0011_01.row.prog w) (ktrTop dp un gd cn cs L a ccd cl outer) (getAttr (.ref r) (Str.ofString "scope") pl) Q E s := by
  revert X
  k_fill
  intro X
  cases R with
  | inc h1 h2 => have N2 := news_mono N (all2 (hs _ h1) (hs _ h2)); clear N; k_steps; exact h
  | prec h1 h2 => have N2 := news_mono N (all2 (hs _ h1) (hs _ h2)); clear N; k_steps; exact h
  | lex h1 h2 => have N2 := news_mono N (all2 (hs _ h1) (hs _ h2)); clear N; k_steps; exact h
theorem meth_told {w : World} {dp un : Nat} {gd : Option (List Code)} {cn : Str} {cs : Scope} {a : Addr} {ccd : Value} {cl : List (Str × Addr)} {outer : List Env} {h₀ : Heap} {L : Addr} {m : Str → Option Value} {s : Shared} {E : Value → Shared → Prop}
    {W : Way} {r z : Addr} {news Xr : List (Addr × Obj)} {pl : Sem Bool} {Q : Value × List Value → Shared → Prop}
    (F : Fr h₀ L s.heap m) (X : (hd.heap_39 w.params).In h₀) (N : News h₀ L s.heap news) (R : RuleIn w Xr W r z) (hs : ∀ e ∈ Xr, e ∈ news)
    (h : Q (.ref W.fT, [.ref r]) s) :
    wpAny (model PySem.Challenge.rw_nz0011_01.row.prog w) (ktrTop dp un gd cn cs L a ccd cl outer) (getMethod (.ref r) (Str.ofString "told") pl) Q E s := by
  revert X
  k_fill
  intro X
  cases R with
  | inc h1 h2 => have N2 := news_mono N (all2 (hs _ h1) (hs _ h2)); clear N; k_steps; exact h
  | prec h1 h2 => have N2 := news_mono N (all2 (hs _ h1) (hs _ h2)); clear N; k_steps; exact h
  | lex h1 h2 => have N2 := news_mono N (all2 (hs _ h1) (hs _ h2)); clear N; k_steps; exact h
theorem meth_check {w : World} {dp un : Nat} {gd : Option (List Code)} {cn : Str} {cs : Scope} {a : Addr} {ccd : Value} {cl : List (Str × Addr)} {outer : List Env} {h₀ : Heap} {L : Addr} {m : Str → Option Value} {s : Shared} {E : Value → Shared → Prop}
    {W : Way} {r z : Addr} {news Xr : List (Addr × Obj)} {pl : Sem Bool} {Q : Value × List Value → Shared → Prop}
    (F : Fr h₀ L s.heap m) (X : (hd.heap_39 w.params).In h₀) (N : News h₀ L s.heap news) (R : RuleIn w Xr W r z) (hs : ∀ e ∈ Xr, e ∈ news)
    (h : Q (.ref W.fC, [.ref r]) s) :
    wpAny (model PySem.Challenge.rw_nz0011_01.row.prog w) (ktrTop dp un gd cn cs L a ccd cl outer) (getMethod (.ref r) (Str.ofString "check") pl) Q E s := by
  revert X
  k_fill
  intro X
  cases R with
  | inc h1 h2 => have N2 := news_mono N (all2 (hs _ h1) (hs _ h2)); clear N; k_steps; exact h
  | prec h1 h2 => have N2 := news_mono N (all2 (hs _ h1) (hs _ h2)); clear N; k_steps; exact h
  | lex h1 h2 => have N2 := news_mono N (all2 (hs _ h1) (hs _ h2)); clear N; k_steps; exact h
theorem keep_told {w : World} (W : Way) : keepIn (hd.heap_39 w.params) (.ref W.fT) = true := by cases W <;> rfl
theorem keep_check {w : World} (W : Way) : keepIn (hd.heap_39 w.params) (.ref W.fC) = true := by cases W <;> rfl
end
section
theorem lexNm_t {st : Bool} (h : st = true) : Str.ofString "lex_lt" = lexNm st := by subst h; rfl
theorem lexNm_f {st : Bool} (h : st = false) : Str.ofString "lex_le" = lexNm st := by subst h; rfl
theorem tm0_tells {w : World} {mean : ExcName → Option Value} {mg mb : Str → Option Value} {dp un : Nat} {gd : Option (List Code)} {cn : Str} {cs : Scope} {a : Addr} {ccd : Value} {cl : List (Str × Addr)} {outer : List Env} {A₀ : Around} {base h₀ : Heap} {L : Addr} {m : Str → Option Value} {s : Shared} {Q E : Value → Shared → Prop}
    {r z dx : Addr} {rest : List (Addr × Obj)} {zs : List Value} {t1 t2 t3 t4 t5 : Tok}
    (B : Below A₀ base outer h₀) (F : Fr h₀ L s.heap m) (X : (hd.heap_39 w.params).In h₀) (N : News h₀ L s.heap ((r, instObj 159 dx) :: (dx, dictOf [({ hash := PyData.keyHash w.params (Str.ofString "number"), key := .str (Str.ofString "number") t1, val := .int (-1) t2 } : DictEntry), ({ hash := PyData.keyHash w.params (Str.ofString "scope"), key := .str (Str.ofString "scope") t3, val := .ref z } : DictEntry), ({ hash := PyData.keyHash w.params (Str.ofString "strength"), key := .str (Str.ofString "strength") t4, val := .str (Str.ofString "bounds") t5 } : DictEntry)] 3) :: (z, tupO zs) :: rest)) (Tp : Top hd.view_39 (looseW hd.view_39 []) mean mg mb h₀) (hk : cs.kind = .function)
    (hdp : dp + 5 < recursionLimit) (hun : un + 200 < cLine)
    (hret : ∀ D tks h' tk', News h₀ L h' ((D, tupO [.str (Str.ofString "increasing") tks, .ref z]) :: (r, instObj 159 dx) :: (dx, dictOf [({ hash := PyData.keyHash w.params (Str.ofString "number"), key := .str (Str.ofString "number") t1, val := .int (-1) t2 } : DictEntry), ({ hash := PyData.keyHash w.params (Str.ofString "scope"), key := .str (Str.ofString "scope") t3, val := .ref z } : DictEntry), ({ hash := PyData.keyHash w.params (Str.ofString "strength"), key := .str (Str.ofString "strength") t4, val := .str (Str.ofString "bounds") t5 } : DictEntry)] 3) :: (z, tupO zs) :: rest) → Fr h₀ L h' m → Q (.ref D) { s with heap := h', toks := tk' }) :
    wpAny (model PySem.Challenge.rw_nz0011_01.row.prog w) (ktrTop dp un gd cn cs L a ccd cl outer) (call (.ref 156) [.ref r]) Q E s := by
  w_top off
  k_with_none
  k_with "ne" => (refine neN ?_; (try dsimp only); (first | with_reducible assumption | (with_reducible refine Ne.symm ?_; assumption) | (repeat (with_reducible rename _ ∧ _ => wz; first | exact wz.1 | exact Ne.symm wz.1 | exact Nat.ne_of_lt wz.1 | exact Nat.ne_of_gt wz.1 | exact wz.1.1 | exact Ne.symm wz.1.1 | exact wz.1.2.1 | exact Ne.symm wz.1.2.1 | exact wz.1.2.2 | exact Ne.symm wz.1.2.2 | exact wz.2.1 | exact Ne.symm wz.2.1 | exact Nat.ne_of_lt wz.2.1 | exact Nat.ne_of_gt wz.2.1 | exact wz.2 | exact Ne.symm wz.2 | exact Nat.ne_of_lt wz.2 | exact Nat.ne_of_gt wz.2 | exact wz.2.1.1 | exact Ne.symm wz.2.1.1 | exact wz.2.1.2.1 | exact Ne.symm wz.2.1.2.1 | exact wz.2.1.2.2 | exact Ne.symm wz.2.1.2.2 | exact wz.2.2.1 | exact Ne.symm wz.2.2.1 | exact Nat.ne_of_lt wz.2.2.1 | exact Nat.ne_of_gt wz.2.2.1 | exact wz.2.2 | exact Ne.symm wz.2.2 | exact Nat.ne_of_lt wz.2.2 | exact Nat.ne_of_gt wz.2.2 | exact wz.2.2.1.1 | exact Ne.symm wz.2.2.1.1 | exact wz.2.2.1.2.1 | exact Ne.symm wz.2.2.1.2.1 | exact wz.2.2.1.2.2 | exact Ne.symm wz.2.2.1.2.2 | exact wz.2.2.2.1 | exact Ne.symm wz.2.2.2.1 | exact Nat.ne_of_lt wz.2.2.2.1 | exact Nat.ne_of_gt wz.2.2.2.1 | exact wz.2.2.2 | exact Ne.symm wz.2.2.2 | exact Nat.ne_of_lt wz.2.2.2 | exact Nat.ne_of_gt wz.2.2.2 | exact wz.2.2.2.1.1 | exact Ne.symm wz.2.2.2.1.1 | exact wz.2.2.2.1.2.1 | exact Ne.symm wz.2.2.2.1.2.1 | exact wz.2.2.2.1.2.2 | exact Ne.symm wz.2.2.2.1.2.2 | exact wz.2.2.2.2.1 | exact Ne.symm wz.2.2.2.2.1 | exact Nat.ne_of_lt wz.2.2.2.2.1 | exact Nat.ne_of_gt wz.2.2.2.2.1 | exact wz.2.2.2.2 | exact Ne.symm wz.2.2.2.2 | exact Nat.ne_of_lt wz.2.2.2.2 | exact Nat.ne_of_gt wz.2.2.2.2 | exact wz.2.2.2.2.1.1 | exact Ne.symm wz.2.2.2.2.1.1 | exact wz.2.2.2.2.1.2.1 | exact Ne.symm wz.2.2.2.2.1.2.1 | exact wz.2.2.2.2.1.2.2 | exact Ne.symm wz.2.2.2.2.1.2.2 | exact wz.2.2.2.2.2.1 | exact Ne.symm wz.2.2.2.2.2.1 | exact Nat.ne_of_lt wz.2.2.2.2.2.1 | exact Nat.ne_of_gt wz.2.2.2.2.2.1 | exact wz.2.2.2.2.2 | exact Ne.symm wz.2.2.2.2.2 | exact Nat.ne_of_lt wz.2.2.2.2.2 | exact Nat.ne_of_gt wz.2.2.2.2.2 | exact wz.2.2.2.2.2.1.1 | exact Ne.symm wz.2.2.2.2.2.1.1 | exact wz.2.2.2.2.2.1.2.1 | exact Ne.symm wz.2.2.2.2.2.1.2.1 | exact wz.2.2.2.2.2.1.2.2 | exact Ne.symm wz.2.2.2.2.2.1.2.2 | exact wz.2.2.2.2.2.2.1 | exact Ne.symm wz.2.2.2.2.2.2.1 | exact Nat.ne_of_lt wz.2.2.2.2.2.2.1 | exact Nat.ne_of_gt wz.2.2.2.2.2.2.1 | exact wz.2.2.2.2.2.2 | exact Ne.symm wz.2.2.2.2.2.2 | exact Nat.ne_of_lt wz.2.2.2.2.2.2 | exact Nat.ne_of_gt wz.2.2.2.2.2.2 | exact wz.2.2.2.2.2.2.1.1 | exact Ne.symm wz.2.2.2.2.2.2.1.1 | exact wz.2.2.2.2.2.2.1.2.1 | exact Ne.symm wz.2.2.2.2.2.2.1.2.1 | exact wz.2.2.2.2.2.2.1.2.2 | exact Ne.symm wz.2.2.2.2.2.2.1.2.2 | exact wz.2.2.2.2.2.2.2.1 | exact Ne.symm wz.2.2.2.2.2.2.2.1 | exact Nat.ne_of_lt wz.2.2.2.2.2.2.2.1 | exact Nat.ne_of_gt wz.2.2.2.2.2.2.2.1 | exact wz.2.2.2.2.2.2.2 | exact Ne.symm wz.2.2.2.2.2.2.2 | exact Nat.ne_of_lt wz.2.2.2.2.2.2.2 | exact Nat.ne_of_gt wz.2.2.2.2.2.2.2 | exact wz.2.2.2.2.2.2.2.1.1 | exact Ne.symm wz.2.2.2.2.2.2.2.1.1 | exact wz.2.2.2.2.2.2.2.1.2.1 | exact Ne.symm wz.2.2.2.2.2.2.2.1.2.1 | exact wz.2.2.2.2.2.2.2.1.2.2 | exact Ne.symm wz.2.2.2.2.2.2.2.1.2.2 | exact wz.2.2.2.2.2.2.2.2.1 | exact Ne.symm wz.2.2.2.2.2.2.2.2.1 | exact Nat.ne_of_lt wz.2.2.2.2.2.2.2.2.1 | exact Nat.ne_of_gt wz.2.2.2.2.2.2.2.2.1 | exact wz.2.2.2.2.2.2.2.2 | exact Ne.symm wz.2.2.2.2.2.2.2.2 | exact Nat.ne_of_lt wz.2.2.2.2.2.2.2.2 | exact Nat.ne_of_gt wz.2.2.2.2.2.2.2.2 | exact wz.2.2.2.2.2.2.2.2.1.1 | exact Ne.symm wz.2.2.2.2.2.2.2.2.1.1 | exact wz.2.2.2.2.2.2.2.2.1.2.1 | exact Ne.symm wz.2.2.2.2.2.2.2.2.1.2.1 | exact wz.2.2.2.2.2.2.2.2.1.2.2 | exact Ne.symm wz.2.2.2.2.2.2.2.2.1.2.2 | exact wz.2.2.2.2.2.2.2.2.2.1 | exact Ne.symm wz.2.2.2.2.2.2.2.2.2.1 | exact Nat.ne_of_lt wz.2.2.2.2.2.2.2.2.2.1 | exact Nat.ne_of_gt wz.2.2.2.2.2.2.2.2.2.1 | exact wz.2.2.2.2.2.2.2.2.2 | exact Ne.symm wz.2.2.2.2.2.2.2.2.2 | exact Nat.ne_of_lt wz.2.2.2.2.2.2.2.2.2 | exact Nat.ne_of_gt wz.2.2.2.2.2.2.2.2.2 | exact wz.2.2.2.2.2.2.2.2.2.1.1 | exact Ne.symm wz.2.2.2.2.2.2.2.2.2.1.1 | exact wz.2.2.2.2.2.2.2.2.2.1.2.1 | exact Ne.symm wz.2.2.2.2.2.2.2.2.2.1.2.1 | exact wz.2.2.2.2.2.2.2.2.2.1.2.2 | exact Ne.symm wz.2.2.2.2.2.2.2.2.2.1.2.2 | exact wz.2.2.2.2.2.2.2.2.2.2.1 | exact Ne.symm wz.2.2.2.2.2.2.2.2.2.2.1 | exact Nat.ne_of_lt wz.2.2.2.2.2.2.2.2.2.2.1 | exact Nat.ne_of_gt wz.2.2.2.2.2.2.2.2.2.2.1 | exact wz.2.2.2.2.2.2.2.2.2.2 | exact Ne.symm wz.2.2.2.2.2.2.2.2.2.2 | exact Nat.ne_of_lt wz.2.2.2.2.2.2.2.2.2.2 | exact Nat.ne_of_gt wz.2.2.2.2.2.2.2.2.2.2 | exact wz.2.2.2.2.2.2.2.2.2.2.1.1 | exact Ne.symm wz.2.2.2.2.2.2.2.2.2.2.1.1 | exact wz.2.2.2.2.2.2.2.2.2.2.1.2.1 | exact Ne.symm wz.2.2.2.2.2.2.2.2.2.2.1.2.1 | exact wz.2.2.2.2.2.2.2.2.2.2.1.2.2 | exact Ne.symm wz.2.2.2.2.2.2.2.2.2.2.1.2.2 | exact wz.2.2.2.2.2.2.2.2.2.2.2.1 | exact Ne.symm wz.2.2.2.2.2.2.2.2.2.2.2.1 | exact Nat.ne_of_lt wz.2.2.2.2.2.2.2.2.2.2.2.1 | exact Nat.ne_of_gt wz.2.2.2.2.2.2.2.2.2.2.2.1 | exact wz.2.2.2.2.2.2.2.2.2.2.2 | exact Ne.symm wz.2.2.2.2.2.2.2.2.2.2.2 | exact Nat.ne_of_lt wz.2.2.2.2.2.2.2.2.2.2.2 | exact Nat.ne_of_gt wz.2.2.2.2.2.2.2.2.2.2.2 | exact wz.2.2.2.2.2.2.2.2.2.2.2.1.1 | exact Ne.symm wz.2.2.2.2.2.2.2.2.2.2.2.1.1 | exact wz.2.2.2.2.2.2.2.2.2.2.2.1.2.1 | exact Ne.symm wz.2.2.2.2.2.2.2.2.2.2.2.1.2.1 | exact wz.2.2.2.2.2.2.2.2.2.2.2.1.2.2 | exact Ne.symm wz.2.2.2.2.2.2.2.2.2.2.2.1.2.2 | exact wz.2.2.2.2.2.2.2.2.2.2.2.2.1 | exact Ne.symm wz.2.2.2.2.2.2.2.2.2.2.2.2.1 | exact Nat.ne_of_lt wz.2.2.2.2.2.2.2.2.2.2.2.2.1 | exact Nat.ne_of_gt wz.2.2.2.2.2.2.2.2.2.2.2.2.1 | exact wz.2.2.2.2.2.2.2.2.2.2.2.2 | exact Ne.symm wz.2.2.2.2.2.2.2.2.2.2.2.2 | exact Nat.ne_of_lt wz.2.2.2.2.2.2.2.2.2.2.2.2 | exact Nat.ne_of_gt wz.2.2.2.2.2.2.2.2.2.2.2.2 | exact wz.2.2.2.2.2.2.2.2.2.2.2.2.1.1 | exact Ne.symm wz.2.2.2.2.2.2.2.2.2.2.2.2.1.1 | exact wz.2.2.2.2.2.2.2.2.2.2.2.2.1.2.1 | exact Ne.symm wz.2.2.2.2.2.2.2.2.2.2.2.2.1.2.1 | exact wz.2.2.2.2.2.2.2.2.2.2.2.2.1.2.2 | exact Ne.symm wz.2.2.2.2.2.2.2.2.2.2.2.2.1.2.2 | exact wz.2.2.2.2.2.2.2.2.2.2.2.2.2.1 | exact Ne.symm wz.2.2.2.2.2.2.2.2.2.2.2.2.2.1 | exact Nat.ne_of_lt wz.2.2.2.2.2.2.2.2.2.2.2.2.2.1 | exact Nat.ne_of_gt wz.2.2.2.2.2.2.2.2.2.2.2.2.2.1 | exact wz.2.2.2.2.2.2.2.2.2.2.2.2.2 | exact Ne.symm wz.2.2.2.2.2.2.2.2.2.2.2.2.2 | exact Nat.ne_of_lt wz.2.2.2.2.2.2.2.2.2.2.2.2.2 | exact Nat.ne_of_gt wz.2.2.2.2.2.2.2.2.2.2.2.2.2 | exact wz.2.2.2.2.2.2.2.2.2.2.2.2.2.1.1 | exact Ne.symm wz.2.2.2.2.2.2.2.2.2.2.2.2.2.1.1 | exact wz.2.2.2.2.2.2.2.2.2.2.2.2.2.1.2.1 | exact Ne.symm wz.2.2.2.2.2.2.2.2.2.2.2.2.2.1.2.1 | exact wz.2.2.2.2.2.2.2.2.2.2.2.2.2.1.2.2 | exact Ne.symm wz.2.2.2.2.2.2.2.2.2.2.2.2.2.1.2.2 | clear wz))); done)
  k_with "om" => ((fail_if_success (with_reducible rename OmMark => x9)); first | decide | exact le_lit (by with_reducible assumption) rfl | exact room1 (by with_reducible assumption) rfl | exact room2 (by with_reducible assumption) rfl | exact room3 (by with_reducible assumption) rfl | ((have m9 : OmMark := OmMark.mk); (first | (with_reducible rename _ ∧ _ => z9; clear z9) | (with_reducible rename @Ne _ _ _ => z9; clear z9)); (repeat (with_reducible rename _ ∧ _ => z9; clear z9)); (repeat (with_reducible rename @Ne _ _ _ => z9; clear z9)); omega))
  k_with "subscriptTail" => (k_here; (with_reducible show wpAny _ _ (subscriptTail _ (PySem.Expr.Slice none (some _) none _) (Value.ref _) (Value.ref _)) _ _ _); k_dflt (refine' cut_upto ?w0wF ?w0wN ?w0wht ?w0whi ?w0whl ?w0wb0 ?w0wb1 ?_ ?w0whs; (case w0wF => k_asm); (case w0wN => k_asm); (case w0wht => (repeat (first | exact List.Mem.head _ | refine List.Mem.tail _ ?_))); (case w0whi => assumption); (case w0whl => first | omega | (simp only [List.length_append]; omega)); (case w0wb0 => omega); (case w0wb1 => first | omega | (simp only [List.length_append]; omega)); (case w0whs => with_unfolding_all rfl)); intro w0wz' w0wh' w0wzs' w0wF' w0wN' w0whI' w0whL')
  k_with "subscriptTail" => (k_here; (with_reducible show wpAny _ _ (subscriptTail _ (PySem.Expr.Slice (some _) none none _) (Value.ref _) (Value.ref _)) _ _ _); k_dflt (refine' cut_from ?w1wF ?w1wN ?w1wht ?w1whi ?w1whl ?w1wb0 ?w1wb1 ?_ ?w1whs; (case w1wF => k_asm); (case w1wN => k_asm); (case w1wht => (repeat (first | exact List.Mem.head _ | refine List.Mem.tail _ ?_))); (case w1whi => assumption); (case w1whl => first | omega | (simp only [List.length_append]; omega)); (case w1wb0 => omega); (case w1wb1 => first | omega | (simp only [List.length_append]; omega)); (case w1whs => with_unfolding_all rfl)); intro w1wz' w1wh' w1wzs' w1wF' w1wN' w1whI' w1whL')
  revert X
  k_fill
  intro X
  refine wpAny_call ?_
  k_dflt cell_enter
  k_steps
  all_goals ((rename News h₀ L _ _ => kN); (rename Fr h₀ L _ m => kF))
  exact hret _ _ _ _ kN kF
theorem tm1_tells {w : World} {mean : ExcName → Option Value} {mg mb : Str → Option Value} {dp un : Nat} {gd : Option (List Code)} {cn : Str} {cs : Scope} {a : Addr} {ccd : Value} {cl : List (Str × Addr)} {outer : List Env} {A₀ : Around} {base h₀ : Heap} {L : Addr} {m : Str → Option Value} {s : Shared} {Q E : Value → Shared → Prop}
    {r z dx : Addr} {rest : List (Addr × Obj)} {zs : List Value} {t1 t2 t3 t4 t5 t6 t7 ta tb : Tok} {p q : Int}
    (B : Below A₀ base outer h₀) (F : Fr h₀ L s.heap m) (X : (hd.heap_39 w.params).In h₀) (N : News h₀ L s.heap ((r, instObj 215 dx) :: (dx, dictOf [({ hash := PyData.keyHash w.params (Str.ofString "number"), key := .str (Str.ofString "number") t1, val := .int (-1) t2 } : DictEntry), ({ hash := PyData.keyHash w.params (Str.ofString "scope"), key := .str (Str.ofString "scope") t3, val := .ref z } : DictEntry), ({ hash := PyData.keyHash w.params (Str.ofString "strength"), key := .str (Str.ofString "strength") t4, val := .str (Str.ofString "values") t5 } : DictEntry), ({ hash := PyData.keyHash w.params (Str.ofString "s"), key := .str (Str.ofString "s") t6, val := .int p ta } : DictEntry), ({ hash := PyData.keyHash w.params (Str.ofString "t"), key := .str (Str.ofString "t") t7, val := .int q tb } : DictEntry)] 5) :: (z, tupO zs) :: rest)) (Tp : Top hd.view_39 (looseW hd.view_39 []) mean mg mb h₀) (hk : cs.kind = .function)
    (hdp : dp + 5 < recursionLimit) (hun : un + 200 < cLine)
    (hret : ∀ D tks h' tk', News h₀ L h' ((D, tupO [.str (Str.ofString "precede") tks, .int p ta, .int q tb, .ref z]) :: (r, instObj 215 dx) :: (dx, dictOf [({ hash := PyData.keyHash w.params (Str.ofString "number"), key := .str (Str.ofString "number") t1, val := .int (-1) t2 } : DictEntry), ({ hash := PyData.keyHash w.params (Str.ofString "scope"), key := .str (Str.ofString "scope") t3, val := .ref z } : DictEntry), ({ hash := PyData.keyHash w.params (Str.ofString "strength"), key := .str (Str.ofString "strength") t4, val := .str (Str.ofString "values") t5 } : DictEntry), ({ hash := PyData.keyHash w.params (Str.ofString "s"), key := .str (Str.ofString "s") t6, val := .int p ta } : DictEntry), ({ hash := PyData.keyHash w.params (Str.ofString "t"), key := .str (Str.ofString "t") t7, val := .int q tb } : DictEntry)] 5) :: (z, tupO zs) :: rest) → Fr h₀ L h' m → Q (.ref D) { s with heap := h', toks := tk' }) :
    wpAny (model PySem.Challenge.rw_nz0011_01.row.prog w) (ktrTop dp un gd cn cs L a ccd cl outer) (call (.ref 212) [.ref r]) Q E s := by
  w_top off
  k_with_none
  k_with "ne" => (refine neN ?_; (try dsimp only); (first | with_reducible assumption | (with_reducible refine Ne.symm ?_; assumption) | (repeat (with_reducible rename _ ∧ _ => wz; first | exact wz.1 | exact Ne.symm wz.1 | exact Nat.ne_of_lt wz.1 | exact Nat.ne_of_gt wz.1 | exact wz.1.1 | exact Ne.symm wz.1.1 | exact wz.1.2.1 | exact Ne.symm wz.1.2.1 | exact wz.1.2.2 | exact Ne.symm wz.1.2.2 | exact wz.2.1 | exact Ne.symm wz.2.1 | exact Nat.ne_of_lt wz.2.1 | exact Nat.ne_of_gt wz.2.1 | exact wz.2 | exact Ne.symm wz.2 | exact Nat.ne_of_lt wz.2 | exact Nat.ne_of_gt wz.2 | exact wz.2.1.1 | exact Ne.symm wz.2.1.1 | exact wz.2.1.2.1 | exact Ne.symm wz.2.1.2.1 | exact wz.2.1.2.2 | exact Ne.symm wz.2.1.2.2 | exact wz.2.2.1 | exact Ne.symm wz.2.2.1 | exact Nat.ne_of_lt wz.2.2.1 | exact Nat.ne_of_gt wz.2.2.1 | exact wz.2.2 | exact Ne.symm wz.2.2 | exact Nat.ne_of_lt wz.2.2 | exact Nat.ne_of_gt wz.2.2 | exact wz.2.2.1.1 | exact Ne.symm wz.2.2.1.1 | exact wz.2.2.1.2.1 | exact Ne.symm wz.2.2.1.2.1 | exact wz.2.2.1.2.2 | exact Ne.symm wz.2.2.1.2.2 | exact wz.2.2.2.1 | exact Ne.symm wz.2.2.2.1 | exact Nat.ne_of_lt wz.2.2.2.1 | exact Nat.ne_of_gt wz.2.2.2.1 | exact wz.2.2.2 | exact Ne.symm wz.2.2.2 | exact Nat.ne_of_lt wz.2.2.2 | exact Nat.ne_of_gt wz.2.2.2 | exact wz.2.2.2.1.1 | exact Ne.symm wz.2.2.2.1.1 | exact wz.2.2.2.1.2.1 | exact Ne.symm wz.2.2.2.1.2.1 | exact wz.2.2.2.1.2.2 | exact Ne.symm wz.2.2.2.1.2.2 | exact wz.2.2.2.2.1 | exact Ne.symm wz.2.2.2.2.1 | exact Nat.ne_of_lt wz.2.2.2.2.1 | exact Nat.ne_of_gt wz.2.2.2.2.1 | exact wz.2.2.2.2 | exact Ne.symm wz.2.2.2.2 | exact Nat.ne_of_lt wz.2.2.2.2 | exact Nat.ne_of_gt wz.2.2.2.2 | exact wz.2.2.2.2.1.1 | exact Ne.symm wz.2.2.2.2.1.1 | exact wz.2.2.2.2.1.2.1 | exact Ne.symm wz.2.2.2.2.1.2.1 | exact wz.2.2.2.2.1.2.2 | exact Ne.symm wz.2.2.2.2.1.2.2 | exact wz.2.2.2.2.2.1 | exact Ne.symm wz.2.2.2.2.2.1 | exact Nat.ne_of_lt wz.2.2.2.2.2.1 | exact Nat.ne_of_gt wz.2.2.2.2.2.1 | exact wz.2.2.2.2.2 | exact Ne.symm wz.2.2.2.2.2 | exact Nat.ne_of_lt wz.2.2.2.2.2 | exact Nat.ne_of_gt wz.2.2.2.2.2 | exact wz.2.2.2.2.2.1.1 | exact Ne.symm wz.2.2.2.2.2.1.1 | exact wz.2.2.2.2.2.1.2.1 | exact Ne.symm wz.2.2.2.2.2.1.2.1 | exact wz.2.2.2.2.2.1.2.2 | exact Ne.symm wz.2.2.2.2.2.1.2.2 | exact wz.2.2.2.2.2.2.1 | exact Ne.symm wz.2.2.2.2.2.2.1 | exact Nat.ne_of_lt wz.2.2.2.2.2.2.1 | exact Nat.ne_of_gt wz.2.2.2.2.2.2.1 | exact wz.2.2.2.2.2.2 | exact Ne.symm wz.2.2.2.2.2.2 | exact Nat.ne_of_lt wz.2.2.2.2.2.2 | exact Nat.ne_of_gt wz.2.2.2.2.2.2 | exact wz.2.2.2.2.2.2.1.1 | exact Ne.symm wz.2.2.2.2.2.2.1.1 | exact wz.2.2.2.2.2.2.1.2.1 | exact Ne.symm wz.2.2.2.2.2.2.1.2.1 | exact wz.2.2.2.2.2.2.1.2.2 | exact Ne.symm wz.2.2.2.2.2.2.1.2.2 | exact wz.2.2.2.2.2.2.2.1 | exact Ne.symm wz.2.2.2.2.2.2.2.1 | exact Nat.ne_of_lt wz.2.2.2.2.2.2.2.1 | exact Nat.ne_of_gt wz.2.2.2.2.2.2.2.1 | exact wz.2.2.2.2.2.2.2 | exact Ne.symm wz.2.2.2.2.2.2.2 | exact Nat.ne_of_lt wz.2.2.2.2.2.2.2 | exact Nat.ne_of_gt wz.2.2.2.2.2.2.2 | exact wz.2.2.2.2.2.2.2.1.1 | exact Ne.symm wz.2.2.2.2.2.2.2.1.1 | exact wz.2.2.2.2.2.2.2.1.2.1 | exact Ne.symm wz.2.2.2.2.2.2.2.1.2.1 | exact wz.2.2.2.2.2.2.2.1.2.2 | exact Ne.symm wz.2.2.2.2.2.2.2.1.2.2 | exact wz.2.2.2.2.2.2.2.2.1 | exact Ne.symm wz.2.2.2.2.2.2.2.2.1 | exact Nat.ne_of_lt wz.2.2.2.2.2.2.2.2.1 | exact Nat.ne_of_gt wz.2.2.2.2.2.2.2.2.1 | exact wz.2.2.2.2.2.2.2.2 | exact Ne.symm wz.2.2.2.2.2.2.2.2 | exact Nat.ne_of_lt wz.2.2.2.2.2.2.2.2 | exact Nat.ne_of_gt wz.2.2.2.2.2.2.2.2 | exact wz.2.2.2.2.2.2.2.2.1.1 | exact Ne.symm wz.2.2.2.2.2.2.2.2.1.1 | exact wz.2.2.2.2.2.2.2.2.1.2.1 | exact Ne.symm wz.2.2.2.2.2.2.2.2.1.2.1 | exact wz.2.2.2.2.2.2.2.2.1.2.2 | exact Ne.symm wz.2.2.2.2.2.2.2.2.1.2.2 | exact wz.2.2.2.2.2.2.2.2.2.1 | exact Ne.symm wz.2.2.2.2.2.2.2.2.2.1 | exact Nat.ne_of_lt wz.2.2.2.2.2.2.2.2.2.1 | exact Nat.ne_of_gt wz.2.2.2.2.2.2.2.2.2.1 | exact wz.2.2.2.2.2.2.2.2.2 | exact Ne.symm wz.2.2.2.2.2.2.2.2.2 | exact Nat.ne_of_lt wz.2.2.2.2.2.2.2.2.2 | exact Nat.ne_of_gt wz.2.2.2.2.2.2.2.2.2 | exact wz.2.2.2.2.2.2.2.2.2.1.1 | exact Ne.symm wz.2.2.2.2.2.2.2.2.2.1.1 | exact wz.2.2.2.2.2.2.2.2.2.1.2.1 | exact Ne.symm wz.2.2.2.2.2.2.2.2.2.1.2.1 | exact wz.2.2.2.2.2.2.2.2.2.1.2.2 | exact Ne.symm wz.2.2.2.2.2.2.2.2.2.1.2.2 | exact wz.2.2.2.2.2.2.2.2.2.2.1 | exact Ne.symm wz.2.2.2.2.2.2.2.2.2.2.1 | exact Nat.ne_of_lt wz.2.2.2.2.2.2.2.2.2.2.1 | exact Nat.ne_of_gt wz.2.2.2.2.2.2.2.2.2.2.1 | exact wz.2.2.2.2.2.2.2.2.2.2 | exact Ne.symm wz.2.2.2.2.2.2.2.2.2.2 | exact Nat.ne_of_lt wz.2.2.2.2.2.2.2.2.2.2 | exact Nat.ne_of_gt wz.2.2.2.2.2.2.2.2.2.2 | exact wz.2.2.2.2.2.2.2.2.2.2.1.1 | exact Ne.symm wz.2.2.2.2.2.2.2.2.2.2.1.1 | exact wz.2.2.2.2.2.2.2.2.2.2.1.2.1 | exact Ne.symm wz.2.2.2.2.2.2.2.2.2.2.1.2.1 | exact wz.2.2.2.2.2.2.2.2.2.2.1.2.2 | exact Ne.symm wz.2.2.2.2.2.2.2.2.2.2.1.2.2 | exact wz.2.2.2.2.2.2.2.2.2.2.2.1 | exact Ne.symm wz.2.2.2.2.2.2.2.2.2.2.2.1 | exact Nat.ne_of_lt wz.2.2.2.2.2.2.2.2.2.2.2.1 | exact Nat.ne_of_gt wz.2.2.2.2.2.2.2.2.2.2.2.1 | exact wz.2.2.2.2.2.2.2.2.2.2.2 | exact Ne.symm wz.2.2.2.2.2.2.2.2.2.2.2 | exact Nat.ne_of_lt wz.2.2.2.2.2.2.2.2.2.2.2 | exact Nat.ne_of_gt wz.2.2.2.2.2.2.2.2.2.2.2 | exact wz.2.2.2.2.2.2.2.2.2.2.2.1.1 | exact Ne.symm wz.2.2.2.2.2.2.2.2.2.2.2.1.1 | exact wz.2.2.2.2.2.2.2.2.2.2.2.1.2.1 | exact Ne.symm wz.2.2.2.2.2.2.2.2.2.2.2.1.2.1 | exact wz.2.2.2.2.2.2.2.2.2.2.2.1.2.2 | exact Ne.symm wz.2.2.2.2.2.2.2.2.2.2.2.1.2.2 | exact wz.2.2.2.2.2.2.2.2.2.2.2.2.1 | exact Ne.symm wz.2.2.2.2.2.2.2.2.2.2.2.2.1 | exact Nat.ne_of_lt wz.2.2.2.2.2.2.2.2.2.2.2.2.1 | exact Nat.ne_of_gt wz.2.2.2.2.2.2.2.2.2.2.2.2.1 | exact wz.2.2.2.2.2.2.2.2.2.2.2.2 | exact Ne.symm wz.2.2.2.2.2.2.2.2.2.2.2.2 | exact Nat.ne_of_lt wz.2.2.2.2.2.2.2.2.2.2.2.2 | exact Nat.ne_of_gt wz.2.2.2.2.2.2.2.2.2.2.2.2 | exact wz.2.2.2.2.2.2.2.2.2.2.2.2.1.1 | exact Ne.symm wz.2.2.2.2.2.2.2.2.2.2.2.2.1.1 | exact wz.2.2.2.2.2.2.2.2.2.2.2.2.1.2.1 | exact Ne.symm wz.2.2.2.2.2.2.2.2.2.2.2.2.1.2.1 | exact wz.2.2.2.2.2.2.2.2.2.2.2.2.1.2.2 | exact Ne.symm wz.2.2.2.2.2.2.2.2.2.2.2.2.1.2.2 | exact wz.2.2.2.2.2.2.2.2.2.2.2.2.2.1 | exact Ne.symm wz.2.2.2.2.2.2.2.2.2.2.2.2.2.1 | exact Nat.ne_of_lt wz.2.2.2.2.2.2.2.2.2.2.2.2.2.1 | exact Nat.ne_of_gt wz.2.2.2.2.2.2.2.2.2.2.2.2.2.1 | exact wz.2.2.2.2.2.2.2.2.2.2.2.2.2 | exact Ne.symm wz.2.2.2.2.2.2.2.2.2.2.2.2.2 | exact Nat.ne_of_lt wz.2.2.2.2.2.2.2.2.2.2.2.2.2 | exact Nat.ne_of_gt wz.2.2.2.2.2.2.2.2.2.2.2.2.2 | exact wz.2.2.2.2.2.2.2.2.2.2.2.2.2.1.1 | exact Ne.symm wz.2.2.2.2.2.2.2.2.2.2.2.2.2.1.1 | exact wz.2.2.2.2.2.2.2.2.2.2.2.2.2.1.2.1 | exact Ne.symm wz.2.2.2.2.2.2.2.2.2.2.2.2.2.1.2.1 | exact wz.2.2.2.2.2.2.2.2.2.2.2.2.2.1.2.2 | exact Ne.symm wz.2.2.2.2.2.2.2.2.2.2.2.2.2.1.2.2 | clear wz))); done)
  k_with "om" => ((fail_if_success (with_reducible rename OmMark => x9)); first | decide | exact le_lit (by with_reducible assumption) rfl | exact room1 (by with_reducible assumption) rfl | exact room2 (by with_reducible assumption) rfl | exact room3 (by with_reducible assumption) rfl | ((have m9 : OmMark := OmMark.mk); (first | (with_reducible rename _ ∧ _ => z9; clear z9) | (with_reducible rename @Ne _ _ _ => z9; clear z9)); (repeat (with_reducible rename _ ∧ _ => z9; clear z9)); (repeat (with_reducible rename @Ne _ _ _ => z9; clear z9)); omega))
  k_with "subscriptTail" => (k_here; (with_reducible show wpAny _ _ (subscriptTail _ (PySem.Expr.Slice none (some _) none _) (Value.ref _) (Value.ref _)) _ _ _); k_dflt (refine' cut_upto ?w0wF ?w0wN ?w0wht ?w0whi ?w0whl ?w0wb0 ?w0wb1 ?_ ?w0whs; (case w0wF => k_asm); (case w0wN => k_asm); (case w0wht => (repeat (first | exact List.Mem.head _ | refine List.Mem.tail _ ?_))); (case w0whi => assumption); (case w0whl => first | omega | (simp only [List.length_append]; omega)); (case w0wb0 => omega); (case w0wb1 => first | omega | (simp only [List.length_append]; omega)); (case w0whs => with_unfolding_all rfl)); intro w0wz' w0wh' w0wzs' w0wF' w0wN' w0whI' w0whL')
  k_with "subscriptTail" => (k_here; (with_reducible show wpAny _ _ (subscriptTail _ (PySem.Expr.Slice (some _) none none _) (Value.ref _) (Value.ref _)) _ _ _); k_dflt (refine' cut_from ?w1wF ?w1wN ?w1wht ?w1whi ?w1whl ?w1wb0 ?w1wb1 ?_ ?w1whs; (case w1wF => k_asm); (case w1wN => k_asm); (case w1wht => (repeat (first | exact List.Mem.head _ | refine List.Mem.tail _ ?_))); (case w1whi => assumption); (case w1whl => first | omega | (simp only [List.length_append]; omega)); (case w1wb0 => omega); (case w1wb1 => first | omega | (simp only [List.length_append]; omega)); (case w1whs => with_unfolding_all rfl)); intro w1wz' w1wh' w1wzs' w1wF' w1wN' w1whI' w1whL')
  revert X
  k_fill
  intro X
  refine wpAny_call ?_
  k_dflt cell_enter
  k_steps
  all_goals ((rename News h₀ L _ _ => kN); (rename Fr h₀ L _ m => kF))
  exact hret _ _ _ _ kN kF
theorem tm2_tells {w : World} {mean : ExcName → Option Value} {mg mb : Str → Option Value} {dp un : Nat} {gd : Option (List Code)} {cn : Str} {cs : Scope} {a : Addr} {ccd : Value} {cl : List (Str × Addr)} {outer : List Env} {A₀ : Around} {base h₀ : Heap} {L : Addr} {m : Str → Option Value} {s : Shared} {Q E : Value → Shared → Prop}
    {r z dx D : Addr} {rest : List (Addr × Obj)} {zs : List Value} {rs : List Int} {t1 t2 t3 t4 t5 t6 t7 t8 t9 ta : Tok} {k : Nat} {st sa : Bool}
    (B : Below A₀ base outer h₀) (F : Fr h₀ L s.heap m) (X : (hd.heap_39 w.params).In h₀) (N : News h₀ L s.heap ((r, instObj 117 dx) :: (dx, dictOf [({ hash := PyData.keyHash w.params (Str.ofString "number"), key := .str (Str.ofString "number") t1, val := .int (-1) t2 } : DictEntry), ({ hash := PyData.keyHash w.params (Str.ofString "scope"), key := .str (Str.ofString "scope") t3, val := .ref z } : DictEntry), ({ hash := PyData.keyHash w.params (Str.ofString "strength"), key := .str (Str.ofString "strength") t4, val := .str (Str.ofString "values") t5 } : DictEntry), ({ hash := PyData.keyHash w.params (Str.ofString "pairs"), key := .str (Str.ofString "pairs") t6, val := .ref D } : DictEntry), ({ hash := PyData.keyHash w.params (Str.ofString "many"), key := .str (Str.ofString "many") t7, val := .int (k : Nat) t8 } : DictEntry), ({ hash := PyData.keyHash w.params (Str.ofString "is_strict"), key := .str (Str.ofString "is_strict") t9, val := .bool st } : DictEntry), ({ hash := PyData.keyHash w.params (Str.ofString "stands_alike"), key := .str (Str.ofString "stands_alike") ta, val := .bool sa } : DictEntry)] 7) :: (z, tupO zs) :: rest)) (Tp : Top hd.view_39 (looseW hd.view_39 []) mean mg mb h₀) (hk : cs.kind = .function)
    (hI : IntsAre zs rs) (hl : rs.length ≤ 6) (hkn : k ≤ rs.length) (hdp : dp + 5 < recursionLimit) (hun : un + 200 < cLine)
    (hret : ∀ D' nm z1 z2 v1 v2 tks h' tk', nm = lexNm st → News h₀ L h' ((D', tupO [.str nm tks, .ref z1, .ref z2]) :: (z2, tupO v2) :: (z1, tupO v1) :: (r, instObj 117 dx) :: (dx, dictOf [({ hash := PyData.keyHash w.params (Str.ofString "number"), key := .str (Str.ofString "number") t1, val := .int (-1) t2 } : DictEntry), ({ hash := PyData.keyHash w.params (Str.ofString "scope"), key := .str (Str.ofString "scope") t3, val := .ref z } : DictEntry), ({ hash := PyData.keyHash w.params (Str.ofString "strength"), key := .str (Str.ofString "strength") t4, val := .str (Str.ofString "values") t5 } : DictEntry), ({ hash := PyData.keyHash w.params (Str.ofString "pairs"), key := .str (Str.ofString "pairs") t6, val := .ref D } : DictEntry), ({ hash := PyData.keyHash w.params (Str.ofString "many"), key := .str (Str.ofString "many") t7, val := .int (k : Nat) t8 } : DictEntry), ({ hash := PyData.keyHash w.params (Str.ofString "is_strict"), key := .str (Str.ofString "is_strict") t9, val := .bool st } : DictEntry), ({ hash := PyData.keyHash w.params (Str.ofString "stands_alike"), key := .str (Str.ofString "stands_alike") ta, val := .bool sa } : DictEntry)] 7) :: (z, tupO zs) :: rest) → IntsAre v1 (rs.take k) → IntsAre v2 (rs.drop k) → Fr h₀ L h' m → Q (.ref D') { s with heap := h', toks := tk' }) :
    wpAny (model PySem.Challenge.rw_nz0011_01.row.prog w) (ktrTop dp un gd cn cs L a ccd cl outer) (call (.ref 114) [.ref r]) Q E s := by
  w_top off
  k_with_none
  k_with "ne" => (refine neN ?_; (try dsimp only); (first | with_reducible assumption | (with_reducible refine Ne.symm ?_; assumption) | (repeat (with_reducible rename _ ∧ _ => wz; first | exact wz.1 | exact Ne.symm wz.1 | exact Nat.ne_of_lt wz.1 | exact Nat.ne_of_gt wz.1 | exact wz.1.1 | exact Ne.symm wz.1.1 | exact wz.1.2.1 | exact Ne.symm wz.1.2.1 | exact wz.1.2.2 | exact Ne.symm wz.1.2.2 | exact wz.2.1 | exact Ne.symm wz.2.1 | exact Nat.ne_of_lt wz.2.1 | exact Nat.ne_of_gt wz.2.1 | exact wz.2 | exact Ne.symm wz.2 | exact Nat.ne_of_lt wz.2 | exact Nat.ne_of_gt wz.2 | exact wz.2.1.1 | exact Ne.symm wz.2.1.1 | exact wz.2.1.2.1 | exact Ne.symm wz.2.1.2.1 | exact wz.2.1.2.2 | exact Ne.symm wz.2.1.2.2 | exact wz.2.2.1 | exact Ne.symm wz.2.2.1 | exact Nat.ne_of_lt wz.2.2.1 | exact Nat.ne_of_gt wz.2.2.1 | exact wz.2.2 | exact Ne.symm wz.2.2 | exact Nat.ne_of_lt wz.2.2 | exact Nat.ne_of_gt wz.2.2 | exact wz.2.2.1.1 | exact Ne.symm wz.2.2.1.1 | exact wz.2.2.1.2.1 | exact Ne.symm wz.2.2.1.2.1 | exact wz.2.2.1.2.2 | exact Ne.symm wz.2.2.1.2.2 | exact wz.2.2.2.1 | exact Ne.symm wz.2.2.2.1 | exact Nat.ne_of_lt wz.2.2.2.1 | exact Nat.ne_of_gt wz.2.2.2.1 | exact wz.2.2.2 | exact Ne.symm wz.2.2.2 | exact Nat.ne_of_lt wz.2.2.2 | exact Nat.ne_of_gt wz.2.2.2 | exact wz.2.2.2.1.1 | exact Ne.symm wz.2.2.2.1.1 | exact wz.2.2.2.1.2.1 | exact Ne.symm wz.2.2.2.1.2.1 | exact wz.2.2.2.1.2.2 | exact Ne.symm wz.2.2.2.1.2.2 | exact wz.2.2.2.2.1 | exact Ne.symm wz.2.2.2.2.1 | exact Nat.ne_of_lt wz.2.2.2.2.1 | exact Nat.ne_of_gt wz.2.2.2.2.1 | exact wz.2.2.2.2 | exact Ne.symm wz.2.2.2.2 | exact Nat.ne_of_lt wz.2.2.2.2 | exact Nat.ne_of_gt wz.2.2.2.2 | exact wz.2.2.2.2.1.1 | exact Ne.symm wz.2.2.2.2.1.1 | exact wz.2.2.2.2.1.2.1 | exact Ne.symm wz.2.2.2.2.1.2.1 | exact wz.2.2.2.2.1.2.2 | exact Ne.symm wz.2.2.2.2.1.2.2 | exact wz.2.2.2.2.2.1 | exact Ne.symm wz.2.2.2.2.2.1 | exact Nat.ne_of_lt wz.2.2.2.2.2.1 | exact Nat.ne_of_gt wz.2.2.2.2.2.1 | exact wz.2.2.2.2.2 | exact Ne.symm wz.2.2.2.2.2 | exact Nat.ne_of_lt wz.2.2.2.2.2 | exact Nat.ne_of_gt wz.2.2.2.2.2 | exact wz.2.2.2.2.2.1.1 | exact Ne.symm wz.2.2.2.2.2.1.1 | exact wz.2.2.2.2.2.1.2.1 | exact Ne.symm wz.2.2.2.2.2.1.2.1 | exact wz.2.2.2.2.2.1.2.2 | exact Ne.symm wz.2.2.2.2.2.1.2.2 | exact wz.2.2.2.2.2.2.1 | exact Ne.symm wz.2.2.2.2.2.2.1 | exact Nat.ne_of_lt wz.2.2.2.2.2.2.1 | exact Nat.ne_of_gt wz.2.2.2.2.2.2.1 | exact wz.2.2.2.2.2.2 | exact Ne.symm wz.2.2.2.2.2.2 | exact Nat.ne_of_lt wz.2.2.2.2.2.2 | exact Nat.ne_of_gt wz.2.2.2.2.2.2 | exact wz.2.2.2.2.2.2.1.1 | exact Ne.symm wz.2.2.2.2.2.2.1.1 | exact wz.2.2.2.2.2.2.1.2.1 | exact Ne.symm wz.2.2.2.2.2.2.1.2.1 | exact wz.2.2.2.2.2.2.1.2.2 | exact Ne.symm wz.2.2.2.2.2.2.1.2.2 | exact wz.2.2.2.2.2.2.2.1 | exact Ne.symm wz.2.2.2.2.2.2.2.1 | exact Nat.ne_of_lt wz.2.2.2.2.2.2.2.1 | exact Nat.ne_of_gt wz.2.2.2.2.2.2.2.1 | exact wz.2.2.2.2.2.2.2 | exact Ne.symm wz.2.2.2.2.2.2.2 | exact Nat.ne_of_lt wz.2.2.2.2.2.2.2 | exact Nat.ne_of_gt wz.2.2.2.2.2.2.2 | exact wz.2.2.2.2.2.2.2.1.1 | exact Ne.symm wz.2.2.2.2.2.2.2.1.1 | exact wz.2.2.2.2.2.2.2.1.2.1 | exact Ne.symm wz.2.2.2.2.2.2.2.1.2.1 | exact wz.2.2.2.2.2.2.2.1.2.2 | exact Ne.symm wz.2.2.2.2.2.2.2.1.2.2 | exact wz.2.2.2.2.2.2.2.2.1 | exact Ne.symm wz.2.2.2.2.2.2.2.2.1 | exact Nat.ne_of_lt wz.2.2.2.2.2.2.2.2.1 | exact Nat.ne_of_gt wz.2.2.2.2.2.2.2.2.1 | exact wz.2.2.2.2.2.2.2.2 | exact Ne.symm wz.2.2.2.2.2.2.2.2 | exact Nat.ne_of_lt wz.2.2.2.2.2.2.2.2 | exact Nat.ne_of_gt wz.2.2.2.2.2.2.2.2 | exact wz.2.2.2.2.2.2.2.2.1.1 | exact Ne.symm wz.2.2.2.2.2.2.2.2.1.1 | exact wz.2.2.2.2.2.2.2.2.1.2.1 | exact Ne.symm wz.2.2.2.2.2.2.2.2.1.2.1 | exact wz.2.2.2.2.2.2.2.2.1.2.2 | exact Ne.symm wz.2.2.2.2.2.2.2.2.1.2.2 | exact wz.2.2.2.2.2.2.2.2.2.1 | exact Ne.symm wz.2.2.2.2.2.2.2.2.2.1 | exact Nat.ne_of_lt wz.2.2.2.2.2.2.2.2.2.1 | exact Nat.ne_of_gt wz.2.2.2.2.2.2.2.2.2.1 | exact wz.2.2.2.2.2.2.2.2.2 | exact Ne.symm wz.2.2.2.2.2.2.2.2.2 | exact Nat.ne_of_lt wz.2.2.2.2.2.2.2.2.2 | exact Nat.ne_of_gt wz.2.2.2.2.2.2.2.2.2 | exact wz.2.2.2.2.2.2.2.2.2.1.1 | exact Ne.symm wz.2.2.2.2.2.2.2.2.2.1.1 | exact wz.2.2.2.2.2.2.2.2.2.1.2.1 | exact Ne.symm wz.2.2.2.2.2.2.2.2.2.1.2.1 | exact wz.2.2.2.2.2.2.2.2.2.1.2.2 | exact Ne.symm wz.2.2.2.2.2.2.2.2.2.1.2.2 | exact wz.2.2.2.2.2.2.2.2.2.2.1 | exact Ne.symm wz.2.2.2.2.2.2.2.2.2.2.1 | exact Nat.ne_of_lt wz.2.2.2.2.2.2.2.2.2.2.1 | exact Nat.ne_of_gt wz.2.2.2.2.2.2.2.2.2.2.1 | exact wz.2.2.2.2.2.2.2.2.2.2 | exact Ne.symm wz.2.2.2.2.2.2.2.2.2.2 | exact Nat.ne_of_lt wz.2.2.2.2.2.2.2.2.2.2 | exact Nat.ne_of_gt wz.2.2.2.2.2.2.2.2.2.2 | exact wz.2.2.2.2.2.2.2.2.2.2.1.1 | exact Ne.symm wz.2.2.2.2.2.2.2.2.2.2.1.1 | exact wz.2.2.2.2.2.2.2.2.2.2.1.2.1 | exact Ne.symm wz.2.2.2.2.2.2.2.2.2.2.1.2.1 | exact wz.2.2.2.2.2.2.2.2.2.2.1.2.2 | exact Ne.symm wz.2.2.2.2.2.2.2.2.2.2.1.2.2 | exact wz.2.2.2.2.2.2.2.2.2.2.2.1 | exact Ne.symm wz.2.2.2.2.2.2.2.2.2.2.2.1 | exact Nat.ne_of_lt wz.2.2.2.2.2.2.2.2.2.2.2.1 | exact Nat.ne_of_gt wz.2.2.2.2.2.2.2.2.2.2.2.1 | exact wz.2.2.2.2.2.2.2.2.2.2.2 | exact Ne.symm wz.2.2.2.2.2.2.2.2.2.2.2 | exact Nat.ne_of_lt wz.2.2.2.2.2.2.2.2.2.2.2 | exact Nat.ne_of_gt wz.2.2.2.2.2.2.2.2.2.2.2 | exact wz.2.2.2.2.2.2.2.2.2.2.2.1.1 | exact Ne.symm wz.2.2.2.2.2.2.2.2.2.2.2.1.1 | exact wz.2.2.2.2.2.2.2.2.2.2.2.1.2.1 | exact Ne.symm wz.2.2.2.2.2.2.2.2.2.2.2.1.2.1 | exact wz.2.2.2.2.2.2.2.2.2.2.2.1.2.2 | exact Ne.symm wz.2.2.2.2.2.2.2.2.2.2.2.1.2.2 | exact wz.2.2.2.2.2.2.2.2.2.2.2.2.1 | exact Ne.symm wz.2.2.2.2.2.2.2.2.2.2.2.2.1 | exact Nat.ne_of_lt wz.2.2.2.2.2.2.2.2.2.2.2.2.1 | exact Nat.ne_of_gt wz.2.2.2.2.2.2.2.2.2.2.2.2.1 | exact wz.2.2.2.2.2.2.2.2.2.2.2.2 | exact Ne.symm wz.2.2.2.2.2.2.2.2.2.2.2.2 | exact Nat.ne_of_lt wz.2.2.2.2.2.2.2.2.2.2.2.2 | exact Nat.ne_of_gt wz.2.2.2.2.2.2.2.2.2.2.2.2 | exact wz.2.2.2.2.2.2.2.2.2.2.2.2.1.1 | exact Ne.symm wz.2.2.2.2.2.2.2.2.2.2.2.2.1.1 | exact wz.2.2.2.2.2.2.2.2.2.2.2.2.1.2.1 | exact Ne.symm wz.2.2.2.2.2.2.2.2.2.2.2.2.1.2.1 | exact wz.2.2.2.2.2.2.2.2.2.2.2.2.1.2.2 | exact Ne.symm wz.2.2.2.2.2.2.2.2.2.2.2.2.1.2.2 | exact wz.2.2.2.2.2.2.2.2.2.2.2.2.2.1 | exact Ne.symm wz.2.2.2.2.2.2.2.2.2.2.2.2.2.1 | exact Nat.ne_of_lt wz.2.2.2.2.2.2.2.2.2.2.2.2.2.1 | exact Nat.ne_of_gt wz.2.2.2.2.2.2.2.2.2.2.2.2.2.1 | exact wz.2.2.2.2.2.2.2.2.2.2.2.2.2 | exact Ne.symm wz.2.2.2.2.2.2.2.2.2.2.2.2.2 | exact Nat.ne_of_lt wz.2.2.2.2.2.2.2.2.2.2.2.2.2 | exact Nat.ne_of_gt wz.2.2.2.2.2.2.2.2.2.2.2.2.2 | exact wz.2.2.2.2.2.2.2.2.2.2.2.2.2.1.1 | exact Ne.symm wz.2.2.2.2.2.2.2.2.2.2.2.2.2.1.1 | exact wz.2.2.2.2.2.2.2.2.2.2.2.2.2.1.2.1 | exact Ne.symm wz.2.2.2.2.2.2.2.2.2.2.2.2.2.1.2.1 | exact wz.2.2.2.2.2.2.2.2.2.2.2.2.2.1.2.2 | exact Ne.symm wz.2.2.2.2.2.2.2.2.2.2.2.2.2.1.2.2 | clear wz))); done)
  k_with "om" => ((fail_if_success (with_reducible rename OmMark => x9)); first | decide | exact le_lit (by with_reducible assumption) rfl | exact room1 (by with_reducible assumption) rfl | exact room2 (by with_reducible assumption) rfl | exact room3 (by with_reducible assumption) rfl | ((have m9 : OmMark := OmMark.mk); (first | (with_reducible rename _ ∧ _ => z9; clear z9) | (with_reducible rename @Ne _ _ _ => z9; clear z9)); (repeat (with_reducible rename _ ∧ _ => z9; clear z9)); (repeat (with_reducible rename @Ne _ _ _ => z9; clear z9)); omega))
  k_with "subscriptTail" => (k_here; (with_reducible show wpAny _ _ (subscriptTail _ (PySem.Expr.Slice none (some _) none _) (Value.ref _) (Value.ref _)) _ _ _); k_dflt (refine' cut_upto ?w0wF ?w0wN ?w0wht ?w0whi ?w0whl ?w0wb0 ?w0wb1 ?_ ?w0whs; (case w0wF => k_asm); (case w0wN => k_asm); (case w0wht => (repeat (first | exact List.Mem.head _ | refine List.Mem.tail _ ?_))); (case w0whi => assumption); (case w0whl => first | omega | (simp only [List.length_append]; omega)); (case w0wb0 => omega); (case w0wb1 => first | omega | (simp only [List.length_append]; omega)); (case w0whs => with_unfolding_all rfl)); intro w0wz' w0wh' w0wzs' w0wF' w0wN' w0whI' w0whL')
  k_with "subscriptTail" => (k_here; (with_reducible show wpAny _ _ (subscriptTail _ (PySem.Expr.Slice (some _) none none _) (Value.ref _) (Value.ref _)) _ _ _); k_dflt (refine' cut_from ?w1wF ?w1wN ?w1wht ?w1whi ?w1whl ?w1wb0 ?w1wb1 ?_ ?w1whs; (case w1wF => k_asm); (case w1wN => k_asm); (case w1wht => (repeat (first | exact List.Mem.head _ | refine List.Mem.tail _ ?_))); (case w1whi => assumption); (case w1whl => first | omega | (simp only [List.length_append]; omega)); (case w1wb0 => omega); (case w1wb1 => first | omega | (simp only [List.length_append]; omega)); (case w1whs => with_unfolding_all rfl)); intro w1wz' w1wh' w1wzs' w1wF' w1wN' w1whI' w1whL')
  revert X
  k_fill
  intro X
  refine wpAny_call ?_
  k_dflt cell_enter
  k_steps
  all_goals ((rename News h₀ L _ _ => kN); (rename Fr h₀ L _ m => kF))
  · exact hret _ _ _ _ _ _ _ _ _ (lexNm_t (by assumption)) kN (by assumption) (by assumption) kF
  · exact hret _ _ _ _ _ _ _ _ _ (lexNm_f (by assumption)) kN (by assumption) (by assumption) kF
theorem tm_g {w : World} {mean : ExcName → Option Value} {mg mb : Str → Option Value} {dp un : Nat} {gd : Option (List Code)} {cn : Str} {cs : Scope} {a : Addr} {ccd : Value} {cl : List (Str × Addr)} {outer : List Env} {A₀ : Around} {base h₀ : Heap} {L : Addr} {m : Str → Option Value} {s : Shared} {Q E : Value → Shared → Prop}
    {W : Way} {T S r z : Addr} {news Xt Xr : List (Addr × Obj)} {zs : List Value} {rs : List Int}
    (B : Below A₀ base outer h₀) (F : Fr h₀ L s.heap m) (X : (hd.heap_39 w.params).In h₀) (N : News h₀ L s.heap news) (Tp : Top hd.view_39 (looseW hd.view_39 []) mean mg mb h₀) (hk : cs.kind = .function)
    (ht : ToldIn Xt W T S rs) (R : RuleIn w Xr W r z) (hs : ∀ e ∈ Xr, e ∈ news) (hz : (z, tupO zs) ∈ news) (hI : IntsAre zs rs) (hdp : dp + 5 < recursionLimit) (hun : un + 200 < cLine)
    (hret : ∀ D Xd h' tk', ToldIn Xd W D z rs → News h₀ L h' (news ++ Xd) → Fr h₀ L h' m → Q (.ref D) { s with heap := h', toks := tk' }) :
    wpAny (model PySem.Challenge.rw_nz0011_01.row.prog w) (ktrTop dp un gd cn cs L a ccd cl outer) (call (.ref W.fT) [.ref r]) Q E s := by
  cases ht with
  | inc h i2 =>
    cases R with | inc h1 h2 =>
    refine tm0_tells (rest := news) B F X (news_put N (hs _ h1) (news_put N (hs _ h2) (news_put N hz N))) Tp hk hdp hun fun D tks h' tk' N' F' => ?_
    refine hret D [(D, tupO [.str (Str.ofString "increasing") tks, .ref z])] h' tk' (.inc (.head _) i2) (news_mono N' fun e he => ?_) F'
    rcases List.mem_append.mp he with he | he
    · exact .tail _ (.tail _ (.tail _ (.tail _ he)))
    · exact List.mem_append_left _ he
  | prec h i2 =>
    rename_i tk0 p q ta0 tb0
    cases R with | prec h1 h2 =>
    rename_i dx t1 t2 t3 t4 t5 t6 t7 ta tb
    refine tm1_tells (rest := news) B F X (news_put N (hs _ h1) (news_put N (hs _ h2) (news_put N hz N))) Tp hk hdp hun fun D tks h' tk' N' F' => ?_
    refine hret D [(D, tupO [.str (Str.ofString "precede") tks, .int p ta, .int q tb, .ref z])] h' tk' (.prec (.head _) i2) (news_mono N' fun e he => ?_) F'
    rcases List.mem_append.mp he with he | he
    · exact .tail _ (.tail _ (.tail _ (.tail _ he)))
    · exact List.mem_append_left _ he
  | lex h hy hx i1 i2 j1 j2 e1 e2 =>
    rename_i st k x y vs us rs0 qs0 tk0
    cases R with | lex h1 h2 =>
    subst e1 e2
    refine tm2_tells (rest := news) B F X (news_put N (hs _ h1) (news_put N (hs _ h2) (news_put N hz N))) Tp hk hI (by rw [List.length_append]; omega) (by rw [List.length_append]; omega) hdp hun fun D nm z1 z2 v1 v2 tks h' tk' e N' k1 k2 F' => ?_
    subst e
    rw [List.take_left] at k1
    rw [List.drop_left] at k2
    refine hret D [(D, tupO [.str (lexNm st) tks, .ref z1, .ref z2]), (z2, tupO v2), (z1, tupO v1)] h' tk' (.lex (.head _) (.tail _ (.head _)) (.tail _ (.tail _ (.head _))) k1 i2 k2 j2 rfl rfl) (news_mono N' fun e he => ?_) F'
    rcases List.mem_append.mp he with he | he
    · exact .tail _ (.tail _ (.tail _ (.tail _ (.tail _ (.tail _ he)))))
    · exact List.mem_append_left _ he
end
section
theorem strOk_lex (st : Bool) : PyData.strOk (lexNm st) = true := by cases st <;> decide +kernel
/-- data that lie well, are not deep and are their own equals -/
def Fine (ds : List PyData) : Prop := PyData.canLayAll0 ds = true ∧ PyData.depthAll ds ≤ 60 ∧ PyData.eqvAll ds ds = true
theorem Fine.nil : Fine [] := ⟨rfl, Nat.le_of_ble_eq_true rfl, rfl⟩
theorem Fine.cons {d : PyData} {ds : List PyData} (h1 : PyData.canLay0 d = true) (h2 : PyData.depth d ≤ 60) (h3 : PyData.eqv d d = true) (h : Fine ds) : Fine (d :: ds) :=
  ⟨by simp only [PyData.canLayAll0, h1, h.1, Bool.and_true], by simp only [PyData.depthAll]; exact Nat.max_le.mpr ⟨h2, h.2.1⟩, by simp only [PyData.eqvAll, h3, h.2.2, Bool.and_true]⟩
theorem Fine.str {nm : Str} {ds : List PyData} (hn : PyData.strOk nm = true) (h : Fine ds) : Fine (.str nm :: ds) := h.cons (by simp only [PyData.canLay0, hn]) (by simp only [PyData.depth]; exact Nat.zero_le _) (by simp only [PyData.eqv, beq_self_eq_true, decide_true])
theorem Fine.int {a : Int} {ds : List PyData} (h : Fine ds) : Fine (.int a :: ds) := h.cons (by simp only [PyData.canLay0]) (by simp only [PyData.depth]; exact Nat.zero_le _) (by simp only [PyData.eqv, beq_self_eq_true, decide_true])
theorem Fine.tup {rs : List Int} {ds : List PyData} (h : Fine ds) : Fine (.tuple (rs.map PyData.int) :: ds) := h.cons (by simp only [PyData.canLay0, canLayAll0_ints]) (by have := depth_ints rs; simp only [PyData.depth]; omega) (by simp only [PyData.eqv, eqv_ints])
theorem ne_fine {prog : Program} {w : World} {A : Around} {E : Value → Shared → Prop} {s : Shared} {h₀ : Heap} {L : Addr} {news : List (Addr × Obj)} {a b : Addr} {vs us : List Value} {ds : List PyData} {Q : Value → Shared → Prop} (N : News h₀ L s.heap news) (ha : (a, tupO vs) ∈ news) (hb : (b, tupO us) ∈ news) (ra : ReadsAll s.heap vs ds []) (rb : ReadsAll s.heap us ds [])
    (f : Fine ds) (hu : A.units + 64 < cLine) (h : Q (.bool false) s) : wpAny (model prog w) A (compareOp .NotEq (.ref a) (.ref b)) Q E s := ne_alike N ha hb ra rb (shaped_of f.1 f.2.1) f.2.2 hu h
theorem ne_told_g {prog : Program} {w : World} {A : Around} {E : Value → Shared → Prop} {s : Shared} {h₀ : Heap} {L : Addr} {W : Way} {D z T S : Addr} {news Xd Xt : List (Addr × Obj)} {zs vs : List Value} {rs : List Int} {Q : Value → Shared → Prop}
    (N : News h₀ L s.heap (news ++ Xd)) (hD : ToldIn Xd W D z rs) (ht : ToldIn Xt W T S rs) (hs : ∀ e ∈ Xt, e ∈ news) (hz : (z, tupO zs) ∈ news) (hS : (S, tupO vs) ∈ news) (hI : IntsAre zs rs) (hJ : IntsAre vs rs)
    (hu : A.units + 64 < cLine) (h : News h₀ L s.heap news → Q (.bool false) s) : wpAny (model prog w) A (compareOp .NotEq (.ref D) (.ref T)) Q E s := by
  have l : ∀ {e}, e ∈ news → e ∈ news ++ Xd := fun h => List.mem_append_left _ h
  have r : ∀ {e}, e ∈ Xd → e ∈ news ++ Xd := fun h => List.mem_append_right _ h
  have h' := h (news_mono N fun e he => l he)
  cases ht with
  | inc h1 i2 =>
    cases hD with | inc d1 _ =>
    exact ne_fine (ds := [.str _, .tuple (rs.map PyData.int)]) N (r d1) (l (hs _ h1)) (.cons (.str _ _) (.cons (reads_tup (N _ (l hz)).1 hI) .nil)) (.cons (.str _ _) (.cons (reads_tup (N _ (l hS)).1 hJ) .nil))
      (.str (by decide +kernel) (.tup .nil)) hu h'
  | prec h1 i2 =>
    cases hD with | prec d1 _ =>
    exact ne_fine (ds := [.str _, .int _, .int _, .tuple (rs.map PyData.int)]) N (r d1) (l (hs _ h1)) (.cons (.str _ _) (.cons (.int _ _) (.cons (.int _ _) (.cons (reads_tup (N _ (l hz)).1 hI) .nil)))) (.cons (.str _ _) (.cons (.int _ _) (.cons (.int _ _) (.cons (reads_tup (N _ (l hS)).1 hJ) .nil))))
      (.str (by decide +kernel) (.int (.int (.tup .nil)))) hu h'
  | lex h1 hy hx i1 i2 j1 j2 e1 e2 =>
    rename_i st k x y vs us r1 q1 tk0
    cases hD with | lex d1 dy dx k1 k2 m1 m2 f1 f2 =>
    rename_i x' y' vs' us' r2 q2 tk1
    have g1 : r2 = r1 := by
      have := congrArg (List.take k) (f2.symm.trans e2)
      rw [f1, List.take_left, ← f1, e1, List.take_left] at this
      exact this
    have g2 : q2 = q1 := by
      have := congrArg (List.drop k) (f2.symm.trans e2)
      rw [f1, List.drop_left, ← f1, e1, List.drop_left] at this
      exact this
    subst g1 g2
    exact ne_fine (ds := [.str _, .tuple (r2.map PyData.int), .tuple (q2.map PyData.int)]) N (r d1) (l (hs _ h1)) (.cons (.str _ _) (.cons (reads_tup (N _ (r dx)).1 k1) (.cons (reads_tup (N _ (r dy)).1 m1) .nil))) (.cons (.str _ _) (.cons (reads_tup (N _ (l (hs _ hx))).1 i1) (.cons (reads_tup (N _ (l (hs _ hy))).1 j1) .nil)))
      (.str (strOk_lex _) (.tup (.tup .nil))) hu h'
theorem kp_g {w : World} {mean : ExcName → Option Value} {mg mb : Str → Option Value} {dp un : Nat} {gd : Option (List Code)} {cn : Str} {cs : Scope} {a : Addr} {ccd : Value} {cl : List (Str × Addr)} {outer : List Env} {A₀ : Around} {base h₀ : Heap} {L : Addr} {m : Str → Option Value} {s : Shared} {Q E : Value → Shared → Prop}
    {W : Way} {T S v : Addr} {news Xt : List (Addr × Obj)} {ys : List Value} {rs ns : List Int}
    (B : Below A₀ base outer h₀) (F : Fr h₀ L s.heap m) (X : (hd.heap_39 w.params).In h₀) (N : News h₀ L s.heap news) (Tp : Top hd.view_39 (looseW hd.view_39 []) mean mg mb h₀) (hk : cs.kind = .function)
    (ht : ToldIn Xt W T S rs) (hs : ∀ e ∈ Xt, e ∈ news) (hv : (v, LCg.lst ys) ∈ news) (hI : IntsAre ys ns) (hn : ns.length = rs.length) (hdp : dp + 20 < recursionLimit) (hun : un + 600 < cLine)
    (hret : ∀ h' tk', Fr h₀ L h' m → News h₀ L h' news → Q (.bool (W.keeps ns)) { s with heap := h', toks := tk' }) :
    wpAny (model PySem.Challenge.rw_nz0011_01.row.prog w) (ktrTop dp un gd cn cs L a ccd cl outer) (call (.ref 260) [.ref T, .ref v]) Q E s := by
  cases ht with
  | inc h i2 => exact kp0_tells (rest := news) B F X (news_put N hv (news_put N (hs _ h) N)) Tp hk hI (by omega) (by omega) (by omega) (fun b h' tk' hb F' N' => hb ▸ hret h' tk' F' (news_drop (news_drop (N'))))
  | prec h i2 => exact kp1_tells (rest := news) B F X (news_put N hv (news_put N (hs _ h) N)) Tp hk hI (by omega) (by omega) (by omega) (fun b h' tk' hb F' N' => hb ▸ hret h' tk' F' (news_drop (news_drop (N'))))
  | lex h hy hx i1 i2 j1 j2 e1 e2 =>
    rename_i st k x y vs us r1 q1 tk0
    subst e1
    have e3 : ns.length = r1.length + q1.length := by rw [hn, e2, List.length_append]
    exact kp2_tells (rest := news) B F X (news_put N hv (news_put N (hs _ h) (news_put N (hs _ hy) (news_put N (hs _ hx) N)))) Tp hk hI (by omega) i1 j1 (by omega) hdp hun (fun b h' tk' hb F' N' => hb ▸ hret h' tk' F' (news_drop (news_drop (news_drop (news_drop (N'))))))
theorem ToldIn.k_le {Xt : List (Addr × Obj)} {st : Bool} {k : Nat} {T S : Addr} {rs : List Int} (h : ToldIn Xt (.lex st k) T S rs) : k ≤ rs.length := by
  cases h with | lex h hy hx i1 i2 j1 j2 e1 e2 => rw [e2, List.length_append, e1]; exact Nat.le_add_right _ _
theorem ToldIn.le6 {Xt : List (Addr × Obj)} {W : Way} {T S : Addr} {rs : List Int} (h : ToldIn Xt W T S rs) : rs.length ≤ 6 := by
  cases h with
  | inc _ h => omega
  | prec _ h => omega
  | lex h hy hx i1 i2 j1 j2 e1 e2 => rw [e2, List.length_append]; omega
theorem chkl_g {w : World} {mean : ExcName → Option Value} {mg mb : Str → Option Value} {dp un : Nat} {gd : Option (List Code)} {cn : Str} {cs : Scope} {a : Addr} {ccd : Value} {cl : List (Str × Addr)} {outer : List Env} {A₀ : Around} {base h₀ : Heap} {L : Addr} {m : Str → Option Value} {s : Shared} {Q E : Value → Shared → Prop}
    {W : Way} {T S r z v : Addr} {news Xt Xr : List (Addr × Obj)} {ys : List Value} {rs ns : List Int}
    (B : Below A₀ base outer h₀) (F : Fr h₀ L s.heap m) (X : (hd.heap_39 w.params).In h₀) (N : News h₀ L s.heap news) (Tp : Top hd.view_39 (looseW hd.view_39 []) mean mg mb h₀) (hk : cs.kind = .function)
    (ht : ToldIn Xt W T S rs) (R : RuleIn w Xr W r z) (hs : ∀ e ∈ Xr, e ∈ news) (hv : (v, LCg.lst ys) ∈ news) (hI : IntsAre ys ns) (hn : ns.length = rs.length) (hdp : dp + 5 < recursionLimit) (hun : un + 200 < cLine)
    (hret : ∀ h' tk', Fr h₀ L h' m → News h₀ L h' news → Q (.bool (W.keeps ns)) { s with heap := h', toks := tk' }) :
    wpAny (model PySem.Challenge.rw_nz0011_01.row.prog w) (ktrTop dp un gd cn cs L a ccd cl outer) (call (.ref W.fC) [.ref r, .ref v]) Q E s := by
  have h6 : ns.length ≤ 6 := hn ▸ ht.le6
  cases R with
  | inc h1 h2 => exact chk0l_tells (rest := news) B F X (news_put N hv N) Tp hk hI h6 hdp hun (fun b h' tk' hb F' N' => hb ▸ hret h' tk' F' (news_drop (N')))
  | prec h1 h2 => exact chk1l_tells (rest := news) B F X (news_put N hv (news_put N (hs _ h1) (news_put N (hs _ h2) N))) Tp hk hI h6 hdp hun (fun b h' tk' hb F' N' => hb ▸ hret h' tk' F' (news_drop (news_drop (news_drop (N')))))
  | lex h1 h2 => exact chk2l_tells (rest := news) B F X (news_put N hv (news_put N (hs _ h1) (news_put N (hs _ h2) N))) Tp hk hI h6 (hn ▸ ht.k_le) hdp hun (fun b h' tk' hb F' N' => hb ▸ hret h' tk' F' (news_drop (news_drop (news_drop (N')))))
theorem chkt_g {w : World} {mean : ExcName → Option Value} {mg mb : Str → Option Value} {dp un : Nat} {gd : Option (List Code)} {cn : Str} {cs : Scope} {a : Addr} {ccd : Value} {cl : List (Str × Addr)} {outer : List Env} {A₀ : Around} {base h₀ : Heap} {L : Addr} {m : Str → Option Value} {s : Shared} {Q E : Value → Shared → Prop}
    {W : Way} {T S r z v : Addr} {news Xt Xr : List (Addr × Obj)} {ys : List Value} {rs ns : List Int}
    (B : Below A₀ base outer h₀) (F : Fr h₀ L s.heap m) (X : (hd.heap_39 w.params).In h₀) (N : News h₀ L s.heap news) (Tp : Top hd.view_39 (looseW hd.view_39 []) mean mg mb h₀) (hk : cs.kind = .function)
    (ht : ToldIn Xt W T S rs) (R : RuleIn w Xr W r z) (hs : ∀ e ∈ Xr, e ∈ news) (hv : (v, tupO ys) ∈ news) (hI : IntsAre ys ns) (hn : ns.length = rs.length) (hdp : dp + 5 < recursionLimit) (hun : un + 200 < cLine)
    (hret : ∀ h' tk', Fr h₀ L h' m → News h₀ L h' news → Q (.bool (W.keeps ns)) { s with heap := h', toks := tk' }) :
    wpAny (model PySem.Challenge.rw_nz0011_01.row.prog w) (ktrTop dp un gd cn cs L a ccd cl outer) (call (.ref W.fC) [.ref r, .ref v]) Q E s := by
  have h6 : ns.length ≤ 6 := hn ▸ ht.le6
  cases R with
  | inc h1 h2 => exact chk0t_tells (rest := news) B F X (news_put N hv N) Tp hk hI h6 hdp hun (fun b h' tk' hb F' N' => hb ▸ hret h' tk' F' (news_drop (N')))
  | prec h1 h2 => exact chk1t_tells (rest := news) B F X (news_put N hv (news_put N (hs _ h1) (news_put N (hs _ h2) N))) Tp hk hI h6 hdp hun (fun b h' tk' hb F' N' => hb ▸ hret h' tk' F' (news_drop (news_drop (news_drop (N')))))
  | lex h1 h2 => exact chk2t_tells (rest := news) B F X (news_put N hv (news_put N (hs _ h1) (news_put N (hs _ h2) N))) Tp hk hI h6 (hn ▸ ht.k_le) hdp hun (fun b h' tk' hb F' N' => hb ▸ hret h' tk' F' (news_drop (news_drop (news_drop (N')))))
end
section
theorem whole : PySem.Challenge.rw_nz0011_01.Holds := hd (by
  w_top off
  k_with_none
  k_with "ne" => (refine neN ?_; (try dsimp only); (first | with_reducible assumption | (with_reducible refine Ne.symm ?_; assumption) | (repeat (with_reducible rename _ ∧ _ => wz; first | exact wz.1 | exact Ne.symm wz.1 | exact Nat.ne_of_lt wz.1 | exact Nat.ne_of_gt wz.1 | exact wz.1.1 | exact Ne.symm wz.1.1 | exact wz.1.2.1 | exact Ne.symm wz.1.2.1 | exact wz.1.2.2 | exact Ne.symm wz.1.2.2 | exact wz.2.1 | exact Ne.symm wz.2.1 | exact Nat.ne_of_lt wz.2.1 | exact Nat.ne_of_gt wz.2.1 | exact wz.2 | exact Ne.symm wz.2 | exact Nat.ne_of_lt wz.2 | exact Nat.ne_of_gt wz.2 | exact wz.2.1.1 | exact Ne.symm wz.2.1.1 | exact wz.2.1.2.1 | exact Ne.symm wz.2.1.2.1 | exact wz.2.1.2.2 | exact Ne.symm wz.2.1.2.2 | exact wz.2.2.1 | exact Ne.symm wz.2.2.1 | exact Nat.ne_of_lt wz.2.2.1 | exact Nat.ne_of_gt wz.2.2.1 | exact wz.2.2 | exact Ne.symm wz.2.2 | exact Nat.ne_of_lt wz.2.2 | exact Nat.ne_of_gt wz.2.2 | exact wz.2.2.1.1 | exact Ne.symm wz.2.2.1.1 | exact wz.2.2.1.2.1 | exact Ne.symm wz.2.2.1.2.1 | exact wz.2.2.1.2.2 | exact Ne.symm wz.2.2.1.2.2 | exact wz.2.2.2.1 | exact Ne.symm wz.2.2.2.1 | exact Nat.ne_of_lt wz.2.2.2.1 | exact Nat.ne_of_gt wz.2.2.2.1 | exact wz.2.2.2 | exact Ne.symm wz.2.2.2 | exact Nat.ne_of_lt wz.2.2.2 | exact Nat.ne_of_gt wz.2.2.2 | exact wz.2.2.2.1.1 | exact Ne.symm wz.2.2.2.1.1 | exact wz.2.2.2.1.2.1 | exact Ne.symm wz.2.2.2.1.2.1 | exact wz.2.2.2.1.2.2 | exact Ne.symm wz.2.2.2.1.2.2 | exact wz.2.2.2.2.1 | exact Ne.symm wz.2.2.2.2.1 | exact Nat.ne_of_lt wz.2.2.2.2.1 | exact Nat.ne_of_gt wz.2.2.2.2.1 | exact wz.2.2.2.2 | exact Ne.symm wz.2.2.2.2 | exact Nat.ne_of_lt wz.2.2.2.2 | exact Nat.ne_of_gt wz.2.2.2.2 | exact wz.2.2.2.2.1.1 | exact Ne.symm wz.2.2.2.2.1.1 | exact wz.2.2.2.2.1.2.1 | exact Ne.symm wz.2.2.2.2.1.2.1 | exact wz.2.2.2.2.1.2.2 | exact Ne.symm wz.2.2.2.2.1.2.2 | exact wz.2.2.2.2.2.1 | exact Ne.symm wz.2.2.2.2.2.1 | exact Nat.ne_of_lt wz.2.2.2.2.2.1 | exact Nat.ne_of_gt wz.2.2.2.2.2.1 | exact wz.2.2.2.2.2 | exact Ne.symm wz.2.2.2.2.2 | exact Nat.ne_of_lt wz.2.2.2.2.2 | exact Nat.ne_of_gt wz.2.2.2.2.2 | exact wz.2.2.2.2.2.1.1 | exact Ne.symm wz.2.2.2.2.2.1.1 | exact wz.2.2.2.2.2.1.2.1 | exact Ne.symm wz.2.2.2.2.2.1.2.1 | exact wz.2.2.2.2.2.1.2.2 | exact Ne.symm wz.2.2.2.2.2.1.2.2 | exact wz.2.2.2.2.2.2.1 | exact Ne.symm wz.2.2.2.2.2.2.1 | exact Nat.ne_of_lt wz.2.2.2.2.2.2.1 | exact Nat.ne_of_gt wz.2.2.2.2.2.2.1 | exact wz.2.2.2.2.2.2 | exact Ne.symm wz.2.2.2.2.2.2 | exact Nat.ne_of_lt wz.2.2.2.2.2.2 | exact Nat.ne_of_gt wz.2.2.2.2.2.2 | exact wz.2.2.2.2.2.2.1.1 | exact Ne.symm wz.2.2.2.2.2.2.1.1 | exact wz.2.2.2.2.2.2.1.2.1 | exact Ne.symm wz.2.2.2.2.2.2.1.2.1 | exact wz.2.2.2.2.2.2.1.2.2 | exact Ne.symm wz.2.2.2.2.2.2.1.2.2 | exact wz.2.2.2.2.2.2.2.1 | exact Ne.symm wz.2.2.2.2.2.2.2.1 | exact Nat.ne_of_lt wz.2.2.2.2.2.2.2.1 | exact Nat.ne_of_gt wz.2.2.2.2.2.2.2.1 | exact wz.2.2.2.2.2.2.2 | exact Ne.symm wz.2.2.2.2.2.2.2 | exact Nat.ne_of_lt wz.2.2.2.2.2.2.2 | exact Nat.ne_of_gt wz.2.2.2.2.2.2.2 | exact wz.2.2.2.2.2.2.2.1.1 | exact Ne.symm wz.2.2.2.2.2.2.2.1.1 | exact wz.2.2.2.2.2.2.2.1.2.1 | exact Ne.symm wz.2.2.2.2.2.2.2.1.2.1 | exact wz.2.2.2.2.2.2.2.1.2.2 | exact Ne.symm wz.2.2.2.2.2.2.2.1.2.2 | exact wz.2.2.2.2.2.2.2.2.1 | exact Ne.symm wz.2.2.2.2.2.2.2.2.1 | exact Nat.ne_of_lt wz.2.2.2.2.2.2.2.2.1 | exact Nat.ne_of_gt wz.2.2.2.2.2.2.2.2.1 | exact wz.2.2.2.2.2.2.2.2 | exact Ne.symm wz.2.2.2.2.2.2.2.2 | exact Nat.ne_of_lt wz.2.2.2.2.2.2.2.2 | exact Nat.ne_of_gt wz.2.2.2.2.2.2.2.2 | exact wz.2.2.2.2.2.2.2.2.1.1 | exact Ne.symm wz.2.2.2.2.2.2.2.2.1.1 | exact wz.2.2.2.2.2.2.2.2.1.2.1 | exact Ne.symm wz.2.2.2.2.2.2.2.2.1.2.1 | exact wz.2.2.2.2.2.2.2.2.1.2.2 | exact Ne.symm wz.2.2.2.2.2.2.2.2.1.2.2 | exact wz.2.2.2.2.2.2.2.2.2.1 | exact Ne.symm wz.2.2.2.2.2.2.2.2.2.1 | exact Nat.ne_of_lt wz.2.2.2.2.2.2.2.2.2.1 | exact Nat.ne_of_gt wz.2.2.2.2.2.2.2.2.2.1 | exact wz.2.2.2.2.2.2.2.2.2 | exact Ne.symm wz.2.2.2.2.2.2.2.2.2 | exact Nat.ne_of_lt wz.2.2.2.2.2.2.2.2.2 | exact Nat.ne_of_gt wz.2.2.2.2.2.2.2.2.2 | exact wz.2.2.2.2.2.2.2.2.2.1.1 | exact Ne.symm wz.2.2.2.2.2.2.2.2.2.1.1 | exact wz.2.2.2.2.2.2.2.2.2.1.2.1 | exact Ne.symm wz.2.2.2.2.2.2.2.2.2.1.2.1 | exact wz.2.2.2.2.2.2.2.2.2.1.2.2 | exact Ne.symm wz.2.2.2.2.2.2.2.2.2.1.2.2 | exact wz.2.2.2.2.2.2.2.2.2.2.1 | exact Ne.symm wz.2.2.2.2.2.2.2.2.2.2.1 | exact Nat.ne_of_lt wz.2.2.2.2.2.2.2.2.2.2.1 | exact Nat.ne_of_gt wz.2.2.2.2.2.2.2.2.2.2.1 | exact wz.2.2.2.2.2.2.2.2.2.2 | exact Ne.symm wz.2.2.2.2.2.2.2.2.2.2 | exact Nat.ne_of_lt wz.2.2.2.2.2.2.2.2.2.2 | exact Nat.ne_of_gt wz.2.2.2.2.2.2.2.2.2.2 | exact wz.2.2.2.2.2.2.2.2.2.2.1.1 | exact Ne.symm wz.2.2.2.2.2.2.2.2.2.2.1.1 | exact wz.2.2.2.2.2.2.2.2.2.2.1.2.1 | exact Ne.symm wz.2.2.2.2.2.2.2.2.2.2.1.2.1 | exact wz.2.2.2.2.2.2.2.2.2.2.1.2.2 | exact Ne.symm wz.2.2.2.2.2.2.2.2.2.2.1.2.2 | exact wz.2.2.2.2.2.2.2.2.2.2.2.1 | exact Ne.symm wz.2.2.2.2.2.2.2.2.2.2.2.1 | exact Nat.ne_of_lt wz.2.2.2.2.2.2.2.2.2.2.2.1 | exact Nat.ne_of_gt wz.2.2.2.2.2.2.2.2.2.2.2.1 | exact wz.2.2.2.2.2.2.2.2.2.2.2 | exact Ne.symm wz.2.2.2.2.2.2.2.2.2.2.2 | exact Nat.ne_of_lt wz.2.2.2.2.2.2.2.2.2.2.2 | exact Nat.ne_of_gt wz.2.2.2.2.2.2.2.2.2.2.2 | exact wz.2.2.2.2.2.2.2.2.2.2.2.1.1 | exact Ne.symm wz.2.2.2.2.2.2.2.2.2.2.2.1.1 | exact wz.2.2.2.2.2.2.2.2.2.2.2.1.2.1 | exact Ne.symm wz.2.2.2.2.2.2.2.2.2.2.2.1.2.1 | exact wz.2.2.2.2.2.2.2.2.2.2.2.1.2.2 | exact Ne.symm wz.2.2.2.2.2.2.2.2.2.2.2.1.2.2 | exact wz.2.2.2.2.2.2.2.2.2.2.2.2.1 | exact Ne.symm wz.2.2.2.2.2.2.2.2.2.2.2.2.1 | exact Nat.ne_of_lt wz.2.2.2.2.2.2.2.2.2.2.2.2.1 | exact Nat.ne_of_gt wz.2.2.2.2.2.2.2.2.2.2.2.2.1 | exact wz.2.2.2.2.2.2.2.2.2.2.2.2 | exact Ne.symm wz.2.2.2.2.2.2.2.2.2.2.2.2 | exact Nat.ne_of_lt wz.2.2.2.2.2.2.2.2.2.2.2.2 | exact Nat.ne_of_gt wz.2.2.2.2.2.2.2.2.2.2.2.2 | exact wz.2.2.2.2.2.2.2.2.2.2.2.2.1.1 | exact Ne.symm wz.2.2.2.2.2.2.2.2.2.2.2.2.1.1 | exact wz.2.2.2.2.2.2.2.2.2.2.2.2.1.2.1 | exact Ne.symm wz.2.2.2.2.2.2.2.2.2.2.2.2.1.2.1 | exact wz.2.2.2.2.2.2.2.2.2.2.2.2.1.2.2 | exact Ne.symm wz.2.2.2.2.2.2.2.2.2.2.2.2.1.2.2 | exact wz.2.2.2.2.2.2.2.2.2.2.2.2.2.1 | exact Ne.symm wz.2.2.2.2.2.2.2.2.2.2.2.2.2.1 | exact Nat.ne_of_lt wz.2.2.2.2.2.2.2.2.2.2.2.2.2.1 | exact Nat.ne_of_gt wz.2.2.2.2.2.2.2.2.2.2.2.2.2.1 | exact wz.2.2.2.2.2.2.2.2.2.2.2.2.2 | exact Ne.symm wz.2.2.2.2.2.2.2.2.2.2.2.2.2 | exact Nat.ne_of_lt wz.2.2.2.2.2.2.2.2.2.2.2.2.2 | exact Nat.ne_of_gt wz.2.2.2.2.2.2.2.2.2.2.2.2.2 | exact wz.2.2.2.2.2.2.2.2.2.2.2.2.2.1.1 | exact Ne.symm wz.2.2.2.2.2.2.2.2.2.2.2.2.2.1.1 | exact wz.2.2.2.2.2.2.2.2.2.2.2.2.2.1.2.1 | exact Ne.symm wz.2.2.2.2.2.2.2.2.2.2.2.2.2.1.2.1 | exact wz.2.2.2.2.2.2.2.2.2.2.2.2.2.1.2.2 | exact Ne.symm wz.2.2.2.2.2.2.2.2.2.2.2.2.2.1.2.2 | clear wz))); done)
  k_with "om" => ((fail_if_success (with_reducible rename OmMark => x9)); first | decide | exact le_lit (by with_reducible assumption) rfl | exact room1 (by with_reducible assumption) rfl | exact room2 (by with_reducible assumption) rfl | exact room3 (by with_reducible assumption) rfl | ((have m9 : OmMark := OmMark.mk); (first | (with_reducible rename _ ∧ _ => z9; clear z9) | (with_reducible rename @Ne _ _ _ => z9; clear z9)); (repeat (with_reducible rename _ ∧ _ => z9; clear z9)); (repeat (with_reducible rename @Ne _ _ _ => z9; clear z9)); omega))
  k_with "kin" => (first | with_reducible assumption | with_reducible exact Frag.In.keeps (by k_asm) (Fr.keep (by k_asm)) | ((rename Fr _ _ _ _ => fI'); exact Frag.In.keeps (by with_reducible assumption) (Fr.keep fI')))
  k_with "exec For Name Call cons nil" => (k_here; (rename Fr _ _ _ _ => w0wlF'); (with_unfolding_all refine' For_invVF w0wlF' ?w0wk1 ?w0wk2 ?_; (case w0wk1 => exact rfl); (case w0wk2 => exact rfl); k_whole))
  k_with "pyIter ref" => (k_here; (with_reducible show wpAny _ _ (pyIter (Value.ref _)) (fun _ _ => LoopAtV _ _ _ _ _ (Str.ofString "lap") _ _ _ _ _) _ _); (rename Fr _ _ _ _ => w1wlF'); (rename News _ _ _ _ => w1wlN0'); (have w1wlN' := news_c4 w1wlN0'); (rename IsRange _ _ _ _ _ _ _ _ => rgX); (rename IntsAre _ (_ ++ _) => w1whIc'); (have w1whlc1' := cells_pos w1whIc'); (have w1whlc2' := cells_le w1whIc'); (rename Obj.IsDictOf _ _ _ => w1whD'); (with_unfolding_all refine' src_range 250 [Str.ofString "told", Str.ofString "scope", Str.ofString "rule", Str.ofString "turn", Str.ofString "numbers", Str.ofString "due"] ?w1whh rgX ?w1wsm ?w1wn w1wlF' w1wlN' ?w1whk w1whD' ?w1wU ?w1whq (fun w1wo' w1wt' w1wk' w1wq' w1wv' w1wpre' w1wkk' w1wt1' w1wu' w1wh' w1wtk' w1wown' w1we1' w1we2' w1woff' w1whd' w1whq' w1wh1' w1wh2' w1wF' w1wN' => ?_) (fun w1wo' w1wt' w1wk' w1wq' w1wv' w1wu' w1wh' w1wtk' w1whd' w1whq' w1wh1' w1wh2' w1wF' w1wN' => ?_); (case w1whh => rfl); (case w1wsm => decide); (case w1wn => first | exact rangeSize_nat _ _ | rfl); (case w1whk => exact rfl); (case w1wU => repeat (first | exact Upd2.nil | with_reducible apply Upd2.hd | with_reducible apply Upd2.hk | with_reducible apply Upd2.tail | exact Upd2.rest)); (case w1whq => assumption)); (all_goals (try dsimp only at w1wN')); (all_goals (try simp only [List.nil_append, List.cons_append, List.append_nil] at w1wN')); (all_goals (try dsimp only at w1woff')); (all_goals (try simp only [List.map_cons, List.map_nil] at w1woff')); (all_goals (clear w1wlF' w1wlN' w1wlN0' w1whD')); (all_goals (revert w1wF' w1wN'; (repeat (rename Fr _ _ _ _ => w1wzz'; clear w1wzz')); (repeat (rename News _ _ _ _ => w1wzz'; clear w1wzz')); (repeat (rename _ ∧ _ => w1wzz'; clear w1wzz')); (repeat (rename KstMark => w1wzz'; clear w1wzz')); intro w1wF' w1wN')); (all_goals (have kMark := kstMark)))
  k_with "call ref" => (k_here; (with_reducible show wpAny _ _ (call (Value.ref 248) [Value.ref _]) _ _ _); k_dflt (refine' told_g ?w2wB ?w2wF ?w2wX ?w2wN ?w2wT (by first | exact rfl | assumption) ?w2wU ?w2whD ?w2whc ?w2whcd ?w2whI ?w2whl1 ?w2whl2 ?w2whk0 ?w2whk1 ?w2whdp ?_; (case w2wB => k_asm); (case w2wF => k_asm); (case w2wX => k_asm); (case w2wT => k_asm); (case w2wN => k_asm); (case w2whD => assumption); (case w2wU => (refine' PreU.upd (bad := IsDc) ?w2wuP ?w2wuN ?w2wuH; (case w2wuN => k_asm); (case w2wuH => exact IsDc.of (kvs := srcKV _ _ _) (by assumption)); (case w2wuP => ((repeat (first | (with_reducible apply PreU.head) | ((with_reducible apply PreU.tail); focus (with_reducible first | exact Ap.tup | exact Ap.inst | exact Ap.lst | exact Ap.cell (by assumption) | exact Ap.dk (by (rename Kept _ => w2wkk'; have w2wkk2' := Kept.out w2wkk'; clear w2wkk'; k_ne)) | exact ApC.tup | exact ApC.inst | exact ApC.lst | exact ApC.dct | exact ApC.src (by assumption) | exact Ap.ad (by k_ne))))); (repeat (first | exact AllAp.nil | ((with_reducible apply AllAp.cons); focus (with_reducible first | exact Ap.tup | exact Ap.inst | exact Ap.lst | exact Ap.cell (by assumption) | exact Ap.dk (by (rename Kept _ => w2wkk'; have w2wkk2' := Kept.out w2wkk'; clear w2wkk'; k_ne)) | exact ApC.tup | exact ApC.inst | exact ApC.lst | exact ApC.dct | exact ApC.src (by assumption) | exact Ap.ad (by k_ne))) | (with_reducible apply AllAp.app) | exact AllAp.rest (by with_reducible assumption) | exact AllAp.kind (by with_reducible assumption) | exact AllAp.rest (by k_all))))))); (case w2whc => (with_reducible first | exact List.mem_cons_self | (refine List.mem_cons_of_mem _ ?_; first | exact List.mem_cons_self | (refine List.mem_cons_of_mem _ ?_; first | exact List.mem_cons_self | (refine List.mem_cons_of_mem _ ?_; first | exact List.mem_cons_self | (refine List.mem_cons_of_mem _ ?_; first | exact List.mem_cons_self | (refine List.mem_cons_of_mem _ ?_; first | exact List.mem_cons_self | (refine List.mem_cons_of_mem _ ?_; first | exact List.mem_cons_self | (refine List.mem_cons_of_mem _ ?_; first | exact List.mem_cons_self | (refine List.mem_cons_of_mem _ ?_; first | exact List.mem_cons_self | (refine List.mem_cons_of_mem _ ?_; first | exact List.mem_cons_self | (refine List.mem_cons_of_mem _ ?_; first | exact List.mem_cons_self | (refine List.mem_cons_of_mem _ ?_; first | exact List.mem_cons_self | (refine List.mem_cons_of_mem _ ?_; first | exact List.mem_cons_self | (refine List.mem_cons_of_mem _ ?_; first | exact List.mem_cons_self | (refine List.mem_cons_of_mem _ ?_; first | exact List.mem_cons_self | (refine List.mem_cons_of_mem _ ?_; first | exact List.mem_cons_self | (refine List.mem_cons_of_mem _ ?_; first | exact List.mem_cons_self | (refine List.mem_cons_of_mem _ ?_; first | exact List.mem_cons_self | (refine List.mem_cons_of_mem _ ?_; first | exact List.mem_cons_self | (refine List.mem_cons_of_mem _ ?_; first | exact List.mem_cons_self | (refine List.mem_cons_of_mem _ ?_; first | exact List.mem_cons_self | (refine List.mem_cons_of_mem _ ?_; first | exact List.mem_cons_self | (refine List.mem_cons_of_mem _ ?_; first | exact List.mem_cons_self | (refine List.mem_cons_of_mem _ ?_; exact List.mem_cons_self))))))))))))))))))))))))); (case w2whcd => (refine' src_ne (kvs := srcKV _ _ _) ?w2wuH ?w2wuN ?w2wud ?w2wuc; (case w2wuN => k_asm); (case w2wuH => assumption); (case w2wud => (with_reducible first | exact List.mem_cons_self | (refine List.mem_cons_of_mem _ ?_; first | exact List.mem_cons_self | (refine List.mem_cons_of_mem _ ?_; first | exact List.mem_cons_self | (refine List.mem_cons_of_mem _ ?_; first | exact List.mem_cons_self | (refine List.mem_cons_of_mem _ ?_; first | exact List.mem_cons_self | (refine List.mem_cons_of_mem _ ?_; first | exact List.mem_cons_self | (refine List.mem_cons_of_mem _ ?_; first | exact List.mem_cons_self | (refine List.mem_cons_of_mem _ ?_; first | exact List.mem_cons_self | (refine List.mem_cons_of_mem _ ?_; first | exact List.mem_cons_self | (refine List.mem_cons_of_mem _ ?_; first | exact List.mem_cons_self | (refine List.mem_cons_of_mem _ ?_; first | exact List.mem_cons_self | (refine List.mem_cons_of_mem _ ?_; first | exact List.mem_cons_self | (refine List.mem_cons_of_mem _ ?_; first | exact List.mem_cons_self | (refine List.mem_cons_of_mem _ ?_; first | exact List.mem_cons_self | (refine List.mem_cons_of_mem _ ?_; first | exact List.mem_cons_self | (refine List.mem_cons_of_mem _ ?_; first | exact List.mem_cons_self | (refine List.mem_cons_of_mem _ ?_; first | exact List.mem_cons_self | (refine List.mem_cons_of_mem _ ?_; first | exact List.mem_cons_self | (refine List.mem_cons_of_mem _ ?_; first | exact List.mem_cons_self | (refine List.mem_cons_of_mem _ ?_; first | exact List.mem_cons_self | (refine List.mem_cons_of_mem _ ?_; first | exact List.mem_cons_self | (refine List.mem_cons_of_mem _ ?_; first | exact List.mem_cons_self | (refine List.mem_cons_of_mem _ ?_; first | exact List.mem_cons_self | (refine List.mem_cons_of_mem _ ?_; exact List.mem_cons_self))))))))))))))))))))))))); (case w2wuc => (with_reducible first | exact List.mem_cons_self | (refine List.mem_cons_of_mem _ ?_; first | exact List.mem_cons_self | (refine List.mem_cons_of_mem _ ?_; first | exact List.mem_cons_self | (refine List.mem_cons_of_mem _ ?_; first | exact List.mem_cons_self | (refine List.mem_cons_of_mem _ ?_; first | exact List.mem_cons_self | (refine List.mem_cons_of_mem _ ?_; first | exact List.mem_cons_self | (refine List.mem_cons_of_mem _ ?_; first | exact List.mem_cons_self | (refine List.mem_cons_of_mem _ ?_; first | exact List.mem_cons_self | (refine List.mem_cons_of_mem _ ?_; first | exact List.mem_cons_self | (refine List.mem_cons_of_mem _ ?_; first | exact List.mem_cons_self | (refine List.mem_cons_of_mem _ ?_; first | exact List.mem_cons_self | (refine List.mem_cons_of_mem _ ?_; first | exact List.mem_cons_self | (refine List.mem_cons_of_mem _ ?_; first | exact List.mem_cons_self | (refine List.mem_cons_of_mem _ ?_; first | exact List.mem_cons_self | (refine List.mem_cons_of_mem _ ?_; first | exact List.mem_cons_self | (refine List.mem_cons_of_mem _ ?_; first | exact List.mem_cons_self | (refine List.mem_cons_of_mem _ ?_; first | exact List.mem_cons_self | (refine List.mem_cons_of_mem _ ?_; first | exact List.mem_cons_self | (refine List.mem_cons_of_mem _ ?_; first | exact List.mem_cons_self | (refine List.mem_cons_of_mem _ ?_; first | exact List.mem_cons_self | (refine List.mem_cons_of_mem _ ?_; first | exact List.mem_cons_self | (refine List.mem_cons_of_mem _ ?_; first | exact List.mem_cons_self | (refine List.mem_cons_of_mem _ ?_; first | exact List.mem_cons_self | (refine List.mem_cons_of_mem _ ?_; exact List.mem_cons_self))))))))))))))))))))))))))); (case w2whI => assumption); (case w2whl1 => assumption); (case w2whl2 => assumption); (case w2whk0 => omega); (case w2whk1 => omega); (case w2whdp => ktr_room)); intro w2wW' w2wp' w2wT' w2wS' w2wvs' w2wrs' w2wXt' w2wk' w2wt' w2wo' w2wh' w2wtk' w2wht' w2wN' w2wxd' w2wxc' w2whd' w2whI' w2whrl' w2whrs' w2whk0' w2whk1' w2wF'; (try dsimp only at w2wN'); (try simp only [List.cons_append] at w2wN'))
  k_with "InvEndN" => (k_here; (try dsimp only); (with_reducible show InvEndN _ _ (SrcJ _ _ _ _ _ _ _ _ _) _ _ _ _); (rename News _ _ _ _ => w3wnE'); (rename Obj.IsDictOf _ _ _ => w3whD'); (refine' src_endL ?w3wF w3wnE' ?w3whL w3whD' ?w3whq ?w3whn ?w3who ?w3wha ?w3wh1 ?w3wh2 ?w3whr; (case w3whL => with_unfolding_all rfl); (case w3wF => assumption); (case w3whn => kcf_all); (case w3who => kcf_all); (case w3wha => first | exact rfl | (simp only [List.map_cons, List.map_nil]; done)); (case w3whq => assumption); (case w3wh1 => ((repeat (rename _ ∧ _ => w3wzz'; clear w3wzz')); (repeat (rename @Ne _ _ _ => w3wzz'; clear w3wzz')); omega)); (case w3wh2 => ((repeat (rename _ ∧ _ => w3wzz'; clear w3wzz')); (repeat (rename @Ne _ _ _ => w3wzz'; clear w3wzz')); omega)); (case w3whr => kst_same)))
  k_with "call ref" => (k_here; (with_reducible show wpAny _ _ (call (Value.ref 224) [Value.ref _]) _ _ _); k_dflt (refine' ord_g ?w4wB ?w4wF ?w4wX ?w4wN ?w4wT (by first | exact rfl | assumption) ?w4wht ?w4whs ?w4whS ?w4whI ?w4whdp ?w4whun ?_; (case w4wht => assumption); (case w4wB => k_asm); (case w4wF => k_asm); (case w4wX => k_asm); (case w4wT => k_asm); (case w4wN => k_asm); (case w4whs => (intro w4we9' w4whe9'; with_reducible repeat (first | exact w4whe9' | exact List.mem_append_right _ w4whe9' | refine List.mem_append_left _ ?_ | refine List.mem_cons_of_mem _ ?_))); (case w4whS => (with_reducible first | exact List.mem_cons_self | (refine List.mem_cons_of_mem _ ?_; first | exact List.mem_cons_self | (refine List.mem_cons_of_mem _ ?_; first | exact List.mem_cons_self | (refine List.mem_cons_of_mem _ ?_; first | exact List.mem_cons_self | (refine List.mem_cons_of_mem _ ?_; first | exact List.mem_cons_self | (refine List.mem_cons_of_mem _ ?_; first | exact List.mem_cons_self | (refine List.mem_cons_of_mem _ ?_; first | exact List.mem_cons_self | (refine List.mem_cons_of_mem _ ?_; first | exact List.mem_cons_self | (refine List.mem_cons_of_mem _ ?_; first | exact List.mem_cons_self | (refine List.mem_cons_of_mem _ ?_; first | exact List.mem_cons_self | (refine List.mem_cons_of_mem _ ?_; first | exact List.mem_cons_self | (refine List.mem_cons_of_mem _ ?_; first | exact List.mem_cons_self | (refine List.mem_cons_of_mem _ ?_; first | exact List.mem_cons_self | (refine List.mem_cons_of_mem _ ?_; first | exact List.mem_cons_self | (refine List.mem_cons_of_mem _ ?_; first | exact List.mem_cons_self | (refine List.mem_cons_of_mem _ ?_; first | exact List.mem_cons_self | (refine List.mem_cons_of_mem _ ?_; first | exact List.mem_cons_self | (refine List.mem_cons_of_mem _ ?_; first | exact List.mem_cons_self | (refine List.mem_cons_of_mem _ ?_; first | exact List.mem_cons_self | (refine List.mem_cons_of_mem _ ?_; first | exact List.mem_cons_self | (refine List.mem_cons_of_mem _ ?_; first | exact List.mem_cons_self | (refine List.mem_cons_of_mem _ ?_; first | exact List.mem_cons_self | (refine List.mem_cons_of_mem _ ?_; first | exact List.mem_cons_self | (refine List.mem_cons_of_mem _ ?_; exact List.mem_cons_self))))))))))))))))))))))))); (case w4whI => assumption); (case w4whdp => ktr_room); (case w4whun => ktr_units)); (rename Obj.IsDictOf _ _ _ => w4whD'); intro w4wr' w4wz' w4wzs' w4wXr' w4wh' w4wtk' w4wR' w4whz' w4wN' w4wxc' w4wxne' w4wF'; (have w4wxd' := src_off w4whD' (by (with_reducible first | exact List.mem_cons_self | (refine List.mem_cons_of_mem _ ?_; first | exact List.mem_cons_self | (refine List.mem_cons_of_mem _ ?_; first | exact List.mem_cons_self | (refine List.mem_cons_of_mem _ ?_; first | exact List.mem_cons_self | (refine List.mem_cons_of_mem _ ?_; first | exact List.mem_cons_self | (refine List.mem_cons_of_mem _ ?_; first | exact List.mem_cons_self | (refine List.mem_cons_of_mem _ ?_; first | exact List.mem_cons_self | (refine List.mem_cons_of_mem _ ?_; first | exact List.mem_cons_self | (refine List.mem_cons_of_mem _ ?_; first | exact List.mem_cons_self | (refine List.mem_cons_of_mem _ ?_; first | exact List.mem_cons_self | (refine List.mem_cons_of_mem _ ?_; first | exact List.mem_cons_self | (refine List.mem_cons_of_mem _ ?_; first | exact List.mem_cons_self | (refine List.mem_cons_of_mem _ ?_; first | exact List.mem_cons_self | (refine List.mem_cons_of_mem _ ?_; first | exact List.mem_cons_self | (refine List.mem_cons_of_mem _ ?_; first | exact List.mem_cons_self | (refine List.mem_cons_of_mem _ ?_; first | exact List.mem_cons_self | (refine List.mem_cons_of_mem _ ?_; first | exact List.mem_cons_self | (refine List.mem_cons_of_mem _ ?_; first | exact List.mem_cons_self | (refine List.mem_cons_of_mem _ ?_; first | exact List.mem_cons_self | (refine List.mem_cons_of_mem _ ?_; first | exact List.mem_cons_self | (refine List.mem_cons_of_mem _ ?_; first | exact List.mem_cons_self | (refine List.mem_cons_of_mem _ ?_; first | exact List.mem_cons_self | (refine List.mem_cons_of_mem _ ?_; first | exact List.mem_cons_self | (refine List.mem_cons_of_mem _ ?_; exact List.mem_cons_self))))))))))))))))))))))))) w4wxne'); clear w4wxne'; (try dsimp only at w4wN'); (try simp only [List.cons_append] at w4wN'))
  k_with "getMethod ref" => (k_here; (with_reducible show wpAny _ _ (getMethod (Value.ref _) (Str.ofString "told") _) _ _ _); k_dflt (refine' meth_told ?w5wF ?w5wX ?w5wN ?w5wR ?w5whs ?_; (case w5wR => assumption); (case w5wF => k_asm); (case w5wX => k_asm); (case w5wN => k_asm); (case w5whs => (intro w5we9' w5whe9'; with_reducible repeat (first | exact w5whe9' | exact List.mem_append_right _ w5whe9' | refine List.mem_append_left _ ?_ | refine List.mem_cons_of_mem _ ?_))); k_whole))
  k_with "getMethod ref" => (k_here; (with_reducible show wpAny _ _ (getMethod (Value.ref _) (Str.ofString "check") _) _ _ _); k_dflt (refine' meth_check ?w6wF ?w6wX ?w6wN ?w6wR ?w6whs ?_; (case w6wR => assumption); (case w6wF => k_asm); (case w6wX => k_asm); (case w6wN => k_asm); (case w6whs => (intro w6we9' w6whe9'; with_reducible repeat (first | exact w6whe9' | exact List.mem_append_right _ w6whe9' | refine List.mem_append_left _ ?_ | refine List.mem_cons_of_mem _ ?_))); k_whole))
  k_with "callWith ref" => (k_here; (with_reducible show wpAny _ _ (callWith _ (Value.ref (Way.fT _)) _ _ _) _ _ _); k_dflt (refine' callWith_K0 ?w7wk1 (keep_told _) ?_; (case w7wk1 => k_in); k_whole))
  k_with "callWith ref" => (k_here; (with_reducible show wpAny _ _ (callWith _ (Value.ref (Way.fC _)) _ _ _) _ _ _); k_dflt (refine' callWith_K ?w8wk1 (keep_check _) ?_; (case w8wk1 => k_asm); k_whole))
  k_with "call ref" => (k_here; (with_reducible show wpAny _ _ (call (Value.ref (Way.fT _)) _) _ _ _); k_dflt ((show wpAny _ _ (call (Value.ref (Way.fT _)) [Value.ref _]) _ _ _); refine' tm_g ?w9wB ?w9wF ?w9wX ?w9wN ?w9wT (by first | exact rfl | assumption) ?w9wht ?w9wR ?w9whs ?w9whz ?w9whI ?w9whdp ?w9whun ?_; (case w9wR => assumption); (case w9wht => assumption); (case w9wB => k_asm); (case w9wF => k_asm); (case w9wX => k_asm); (case w9wT => k_asm); (case w9wN => k_asm); (case w9whs => (intro w9we9' w9whe9'; with_reducible repeat (first | exact w9whe9' | exact List.mem_append_right _ w9whe9' | refine List.mem_append_left _ ?_ | refine List.mem_cons_of_mem _ ?_))); (case w9whz => (with_reducible first | exact List.mem_cons_self | (refine List.mem_cons_of_mem _ ?_; first | exact List.mem_cons_self | (refine List.mem_cons_of_mem _ ?_; first | exact List.mem_cons_self | (refine List.mem_cons_of_mem _ ?_; first | exact List.mem_cons_self | (refine List.mem_cons_of_mem _ ?_; first | exact List.mem_cons_self | (refine List.mem_cons_of_mem _ ?_; first | exact List.mem_cons_self | (refine List.mem_cons_of_mem _ ?_; first | exact List.mem_cons_self | (refine List.mem_cons_of_mem _ ?_; first | exact List.mem_cons_self | (refine List.mem_cons_of_mem _ ?_; first | exact List.mem_cons_self | (refine List.mem_cons_of_mem _ ?_; first | exact List.mem_cons_self | (refine List.mem_cons_of_mem _ ?_; first | exact List.mem_cons_self | (refine List.mem_cons_of_mem _ ?_; first | exact List.mem_cons_self | (refine List.mem_cons_of_mem _ ?_; first | exact List.mem_cons_self | (refine List.mem_cons_of_mem _ ?_; first | exact List.mem_cons_self | (refine List.mem_cons_of_mem _ ?_; first | exact List.mem_cons_self | (refine List.mem_cons_of_mem _ ?_; first | exact List.mem_cons_self | (refine List.mem_cons_of_mem _ ?_; first | exact List.mem_cons_self | (refine List.mem_cons_of_mem _ ?_; first | exact List.mem_cons_self | (refine List.mem_cons_of_mem _ ?_; first | exact List.mem_cons_self | (refine List.mem_cons_of_mem _ ?_; first | exact List.mem_cons_self | (refine List.mem_cons_of_mem _ ?_; first | exact List.mem_cons_self | (refine List.mem_cons_of_mem _ ?_; first | exact List.mem_cons_self | (refine List.mem_cons_of_mem _ ?_; first | exact List.mem_cons_self | (refine List.mem_cons_of_mem _ ?_; exact List.mem_cons_self))))))))))))))))))))))))); (case w9whI => assumption); (case w9whdp => ktr_room); (case w9whun => ktr_units)); intro w9wD' w9wXd' w9wh' w9wtk' w9whd' w9wN' w9wF')
  k_with "getAttr ref" => (k_here; (with_reducible show wpAny _ _ (getAttr (Value.ref _) (Str.ofString "scope") _) _ _ _); k_dflt (refine' attr_scope ?w10wF ?w10wX ?w10wN ?w10wR ?w10whs ?_; (case w10wR => assumption); (case w10wF => k_asm); (case w10wX => k_asm); (case w10wN => k_asm); (case w10whs => (intro w10we9' w10whe9'; with_reducible repeat (first | exact w10whe9' | exact List.mem_append_right _ w10whe9' | refine List.mem_append_left _ ?_ | refine List.mem_cons_of_mem _ ?_)))))
  k_with "compareOp NotEq ref ref" => (k_here; (with_reducible show wpAny _ _ (compareOp CmpOp.NotEq (Value.ref _) (Value.ref _)) _ _ _); k_dflt (refine' ne_tups0 ?w11wN ?w11wl ?w11wb ?w11whi ?w11whj ?w11wu ?_; (case w11wN => k_asm); (case w11wl => (with_reducible first | exact List.mem_cons_self | (refine List.mem_cons_of_mem _ ?_; first | exact List.mem_cons_self | (refine List.mem_cons_of_mem _ ?_; first | exact List.mem_cons_self | (refine List.mem_cons_of_mem _ ?_; first | exact List.mem_cons_self | (refine List.mem_cons_of_mem _ ?_; first | exact List.mem_cons_self | (refine List.mem_cons_of_mem _ ?_; first | exact List.mem_cons_self | (refine List.mem_cons_of_mem _ ?_; first | exact List.mem_cons_self | (refine List.mem_cons_of_mem _ ?_; first | exact List.mem_cons_self | (refine List.mem_cons_of_mem _ ?_; first | exact List.mem_cons_self | (refine List.mem_cons_of_mem _ ?_; first | exact List.mem_cons_self | (refine List.mem_cons_of_mem _ ?_; first | exact List.mem_cons_self | (refine List.mem_cons_of_mem _ ?_; first | exact List.mem_cons_self | (refine List.mem_cons_of_mem _ ?_; first | exact List.mem_cons_self | (refine List.mem_cons_of_mem _ ?_; first | exact List.mem_cons_self | (refine List.mem_cons_of_mem _ ?_; first | exact List.mem_cons_self | (refine List.mem_cons_of_mem _ ?_; first | exact List.mem_cons_self | (refine List.mem_cons_of_mem _ ?_; first | exact List.mem_cons_self | (refine List.mem_cons_of_mem _ ?_; first | exact List.mem_cons_self | (refine List.mem_cons_of_mem _ ?_; first | exact List.mem_cons_self | (refine List.mem_cons_of_mem _ ?_; first | exact List.mem_cons_self | (refine List.mem_cons_of_mem _ ?_; first | exact List.mem_cons_self | (refine List.mem_cons_of_mem _ ?_; first | exact List.mem_cons_self | (refine List.mem_cons_of_mem _ ?_; first | exact List.mem_cons_self | (refine List.mem_cons_of_mem _ ?_; exact List.mem_cons_self))))))))))))))))))))))))); (case w11wb => (with_reducible first | exact List.mem_cons_self | (refine List.mem_cons_of_mem _ ?_; first | exact List.mem_cons_self | (refine List.mem_cons_of_mem _ ?_; first | exact List.mem_cons_self | (refine List.mem_cons_of_mem _ ?_; first | exact List.mem_cons_self | (refine List.mem_cons_of_mem _ ?_; first | exact List.mem_cons_self | (refine List.mem_cons_of_mem _ ?_; first | exact List.mem_cons_self | (refine List.mem_cons_of_mem _ ?_; first | exact List.mem_cons_self | (refine List.mem_cons_of_mem _ ?_; first | exact List.mem_cons_self | (refine List.mem_cons_of_mem _ ?_; first | exact List.mem_cons_self | (refine List.mem_cons_of_mem _ ?_; first | exact List.mem_cons_self | (refine List.mem_cons_of_mem _ ?_; first | exact List.mem_cons_self | (refine List.mem_cons_of_mem _ ?_; first | exact List.mem_cons_self | (refine List.mem_cons_of_mem _ ?_; first | exact List.mem_cons_self | (refine List.mem_cons_of_mem _ ?_; first | exact List.mem_cons_self | (refine List.mem_cons_of_mem _ ?_; first | exact List.mem_cons_self | (refine List.mem_cons_of_mem _ ?_; first | exact List.mem_cons_self | (refine List.mem_cons_of_mem _ ?_; first | exact List.mem_cons_self | (refine List.mem_cons_of_mem _ ?_; first | exact List.mem_cons_self | (refine List.mem_cons_of_mem _ ?_; first | exact List.mem_cons_self | (refine List.mem_cons_of_mem _ ?_; first | exact List.mem_cons_self | (refine List.mem_cons_of_mem _ ?_; first | exact List.mem_cons_self | (refine List.mem_cons_of_mem _ ?_; first | exact List.mem_cons_self | (refine List.mem_cons_of_mem _ ?_; first | exact List.mem_cons_self | (refine List.mem_cons_of_mem _ ?_; exact List.mem_cons_self))))))))))))))))))))))))); (case w11whi => assumption); (case w11whj => assumption); (case w11wu => ktr_units)))
  k_with "compareOp NotEq ref ref" => (k_here; (with_reducible show wpAny _ _ (compareOp CmpOp.NotEq (Value.ref _) (Value.ref _)) _ _ _); k_dflt (refine' ne_told_g ?w12wN ?w12whD ?w12wht ?w12whs ?w12whz ?w12whS ?w12whI ?w12whJ ?w12wu ?_; (case w12whD => assumption); (case w12wht => assumption); (case w12wN => (with_reducible assumption)); (case w12whs => (intro w12we9' w12whe9'; with_reducible repeat (first | exact w12whe9' | exact List.mem_append_right _ w12whe9' | refine List.mem_append_left _ ?_ | refine List.mem_cons_of_mem _ ?_))); (case w12whz => (with_reducible first | exact List.mem_cons_self | (refine List.mem_cons_of_mem _ ?_; first | exact List.mem_cons_self | (refine List.mem_cons_of_mem _ ?_; first | exact List.mem_cons_self | (refine List.mem_cons_of_mem _ ?_; first | exact List.mem_cons_self | (refine List.mem_cons_of_mem _ ?_; first | exact List.mem_cons_self | (refine List.mem_cons_of_mem _ ?_; first | exact List.mem_cons_self | (refine List.mem_cons_of_mem _ ?_; first | exact List.mem_cons_self | (refine List.mem_cons_of_mem _ ?_; first | exact List.mem_cons_self | (refine List.mem_cons_of_mem _ ?_; first | exact List.mem_cons_self | (refine List.mem_cons_of_mem _ ?_; first | exact List.mem_cons_self | (refine List.mem_cons_of_mem _ ?_; first | exact List.mem_cons_self | (refine List.mem_cons_of_mem _ ?_; first | exact List.mem_cons_self | (refine List.mem_cons_of_mem _ ?_; first | exact List.mem_cons_self | (refine List.mem_cons_of_mem _ ?_; first | exact List.mem_cons_self | (refine List.mem_cons_of_mem _ ?_; first | exact List.mem_cons_self | (refine List.mem_cons_of_mem _ ?_; first | exact List.mem_cons_self | (refine List.mem_cons_of_mem _ ?_; first | exact List.mem_cons_self | (refine List.mem_cons_of_mem _ ?_; first | exact List.mem_cons_self | (refine List.mem_cons_of_mem _ ?_; first | exact List.mem_cons_self | (refine List.mem_cons_of_mem _ ?_; first | exact List.mem_cons_self | (refine List.mem_cons_of_mem _ ?_; first | exact List.mem_cons_self | (refine List.mem_cons_of_mem _ ?_; first | exact List.mem_cons_self | (refine List.mem_cons_of_mem _ ?_; first | exact List.mem_cons_self | (refine List.mem_cons_of_mem _ ?_; exact List.mem_cons_self))))))))))))))))))))))))); (case w12whS => (with_reducible first | exact List.mem_cons_self | (refine List.mem_cons_of_mem _ ?_; first | exact List.mem_cons_self | (refine List.mem_cons_of_mem _ ?_; first | exact List.mem_cons_self | (refine List.mem_cons_of_mem _ ?_; first | exact List.mem_cons_self | (refine List.mem_cons_of_mem _ ?_; first | exact List.mem_cons_self | (refine List.mem_cons_of_mem _ ?_; first | exact List.mem_cons_self | (refine List.mem_cons_of_mem _ ?_; first | exact List.mem_cons_self | (refine List.mem_cons_of_mem _ ?_; first | exact List.mem_cons_self | (refine List.mem_cons_of_mem _ ?_; first | exact List.mem_cons_self | (refine List.mem_cons_of_mem _ ?_; first | exact List.mem_cons_self | (refine List.mem_cons_of_mem _ ?_; first | exact List.mem_cons_self | (refine List.mem_cons_of_mem _ ?_; first | exact List.mem_cons_self | (refine List.mem_cons_of_mem _ ?_; first | exact List.mem_cons_self | (refine List.mem_cons_of_mem _ ?_; first | exact List.mem_cons_self | (refine List.mem_cons_of_mem _ ?_; first | exact List.mem_cons_self | (refine List.mem_cons_of_mem _ ?_; first | exact List.mem_cons_self | (refine List.mem_cons_of_mem _ ?_; first | exact List.mem_cons_self | (refine List.mem_cons_of_mem _ ?_; first | exact List.mem_cons_self | (refine List.mem_cons_of_mem _ ?_; first | exact List.mem_cons_self | (refine List.mem_cons_of_mem _ ?_; first | exact List.mem_cons_self | (refine List.mem_cons_of_mem _ ?_; first | exact List.mem_cons_self | (refine List.mem_cons_of_mem _ ?_; first | exact List.mem_cons_self | (refine List.mem_cons_of_mem _ ?_; first | exact List.mem_cons_self | (refine List.mem_cons_of_mem _ ?_; exact List.mem_cons_self))))))))))))))))))))))))); (case w12whI => assumption); (case w12whJ => assumption); (case w12wu => ktr_units)); intro w12wN')
  k_with "pyIter ref" => (k_here; (with_reducible show wpAny _ _ (pyIter (Value.ref _)) (fun _ _ => LoopAtV _ _ _ _ _ (Str.ofString "turn") _ _ _ _ _) _ _); (rename Fr _ _ _ _ => w13wlF'); (rename News _ _ _ _ => w13wlN0'); (have w13wlN' := id w13wlN0'); (rename IsRange _ _ _ _ _ _ _ _ => rgX); (rename Obj.IsDictOf _ _ _ => w13whD'); (with_unfolding_all refine' src_range 4 [Str.ofString "numbers", Str.ofString "due"] ?w13whh rgX ?w13wsm ?w13wn w13wlF' w13wlN' ?w13whk w13whD' ?w13wU ?w13whq (fun w13wo' w13wt' w13wk' w13wq' w13wv' w13wpre' w13wkk' w13wt1' w13wu' w13wh' w13wtk' w13wown' w13we1' w13we2' w13woff' w13whd' w13whq' w13wh1' w13wh2' w13wF' w13wN' => ?_) (fun w13wo' w13wt' w13wk' w13wq' w13wv' w13wu' w13wh' w13wtk' w13whd' w13whq' w13wh1' w13wh2' w13wF' w13wN' => ?_); (case w13whh => rfl); (case w13wsm => decide); (case w13wn => first | exact rangeSize_nat _ _ | rfl); (case w13whk => exact rfl); (case w13wU => repeat (first | exact Upd2.nil | with_reducible apply Upd2.hd | with_reducible apply Upd2.hk | with_reducible apply Upd2.tail | exact Upd2.rest)); (case w13whq => assumption)); (all_goals (try dsimp only at w13wN')); (all_goals (try simp only [List.nil_append, List.cons_append, List.append_nil] at w13wN')); (all_goals (try dsimp only at w13woff')); (all_goals (try simp only [List.map_cons, List.map_nil] at w13woff')); (all_goals (clear w13wlF' w13wlN' w13wlN0' w13whD')); (all_goals (revert w13wF' w13wN'; (repeat (rename Fr _ _ _ _ => w13wzz'; clear w13wzz')); (repeat (rename News _ _ _ _ => w13wzz'; clear w13wzz')); (repeat (rename _ ∧ _ => w13wzz'; clear w13wzz')); (repeat (rename KstMark => w13wzz'; clear w13wzz')); intro w13wF' w13wN')); (all_goals (have kMark := kstMark)))
  k_with "call ref" => (k_here; (with_reducible show wpAny _ _ (call (Value.ref 231) [Value.ref _, Value.int _ _]) _ _ _); k_dflt (refine' draw_use ?w14wB ?w14wF ?w14wX ?w14wN ?w14wT ?w14whk ?w14wU ?w14whD ?w14whc ?w14whcd ?w14whI ?w14whl1 ?w14whl2 ?w14whk0 ?w14whk1 ?w14whm0 ?w14whm1 ?w14whdp ?_; (case w14wB => k_asm); (case w14wF => k_asm); (case w14wX => k_asm); (case w14wN => k_asm); (case w14wT => k_asm); (case w14whk => first | exact rfl | assumption); (case w14whD => assumption); (case w14wU => (refine' PreU.upd (bad := IsDc) ?w14wuP ?w14wuN ?w14wuH; (case w14wuN => k_asm); (case w14wuH => exact IsDc.of (kvs := srcKV _ _ _) (by assumption)); (case w14wuP => ((repeat (first | (with_reducible apply PreU.head) | ((with_reducible apply PreU.tail); focus (with_reducible first | exact Ap.tup | exact Ap.inst | exact Ap.lst | exact Ap.cell (by assumption) | exact Ap.dk (by (rename Kept _ => w14wkk'; have w14wkk2' := Kept.out w14wkk'; clear w14wkk'; k_ne)) | exact ApC.tup | exact ApC.inst | exact ApC.lst | exact ApC.dct | exact ApC.src (by assumption) | exact Ap.ad (by k_ne))))); (repeat (first | exact AllAp.nil | ((with_reducible apply AllAp.cons); focus (with_reducible first | exact Ap.tup | exact Ap.inst | exact Ap.lst | exact Ap.cell (by assumption) | exact Ap.dk (by (rename Kept _ => w14wkk'; have w14wkk2' := Kept.out w14wkk'; clear w14wkk'; k_ne)) | exact ApC.tup | exact ApC.inst | exact ApC.lst | exact ApC.dct | exact ApC.src (by assumption) | exact Ap.ad (by k_ne))) | (with_reducible apply AllAp.app) | exact AllAp.rest (by with_reducible assumption) | exact AllAp.kind (by with_reducible assumption) | exact AllAp.rest (by k_all))))))); (case w14whc => (with_reducible first | exact List.mem_cons_self | (refine List.mem_cons_of_mem _ ?_; first | exact List.mem_cons_self | (refine List.mem_cons_of_mem _ ?_; first | exact List.mem_cons_self | (refine List.mem_cons_of_mem _ ?_; first | exact List.mem_cons_self | (refine List.mem_cons_of_mem _ ?_; first | exact List.mem_cons_self | (refine List.mem_cons_of_mem _ ?_; first | exact List.mem_cons_self | (refine List.mem_cons_of_mem _ ?_; first | exact List.mem_cons_self | (refine List.mem_cons_of_mem _ ?_; first | exact List.mem_cons_self | (refine List.mem_cons_of_mem _ ?_; first | exact List.mem_cons_self | (refine List.mem_cons_of_mem _ ?_; first | exact List.mem_cons_self | (refine List.mem_cons_of_mem _ ?_; first | exact List.mem_cons_self | (refine List.mem_cons_of_mem _ ?_; first | exact List.mem_cons_self | (refine List.mem_cons_of_mem _ ?_; first | exact List.mem_cons_self | (refine List.mem_cons_of_mem _ ?_; first | exact List.mem_cons_self | (refine List.mem_cons_of_mem _ ?_; first | exact List.mem_cons_self | (refine List.mem_cons_of_mem _ ?_; first | exact List.mem_cons_self | (refine List.mem_cons_of_mem _ ?_; first | exact List.mem_cons_self | (refine List.mem_cons_of_mem _ ?_; first | exact List.mem_cons_self | (refine List.mem_cons_of_mem _ ?_; first | exact List.mem_cons_self | (refine List.mem_cons_of_mem _ ?_; first | exact List.mem_cons_self | (refine List.mem_cons_of_mem _ ?_; first | exact List.mem_cons_self | (refine List.mem_cons_of_mem _ ?_; first | exact List.mem_cons_self | (refine List.mem_cons_of_mem _ ?_; first | exact List.mem_cons_self | (refine List.mem_cons_of_mem _ ?_; exact List.mem_cons_self))))))))))))))))))))))))); (case w14whcd => (refine' src_ne (kvs := srcKV _ _ _) ?w14wuH ?w14wuN ?w14wud ?w14wuc; (case w14wuN => k_asm); (case w14wuH => assumption); (case w14wud => (with_reducible first | exact List.mem_cons_self | (refine List.mem_cons_of_mem _ ?_; first | exact List.mem_cons_self | (refine List.mem_cons_of_mem _ ?_; first | exact List.mem_cons_self | (refine List.mem_cons_of_mem _ ?_; first | exact List.mem_cons_self | (refine List.mem_cons_of_mem _ ?_; first | exact List.mem_cons_self | (refine List.mem_cons_of_mem _ ?_; first | exact List.mem_cons_self | (refine List.mem_cons_of_mem _ ?_; first | exact List.mem_cons_self | (refine List.mem_cons_of_mem _ ?_; first | exact List.mem_cons_self | (refine List.mem_cons_of_mem _ ?_; first | exact List.mem_cons_self | (refine List.mem_cons_of_mem _ ?_; first | exact List.mem_cons_self | (refine List.mem_cons_of_mem _ ?_; first | exact List.mem_cons_self | (refine List.mem_cons_of_mem _ ?_; first | exact List.mem_cons_self | (refine List.mem_cons_of_mem _ ?_; first | exact List.mem_cons_self | (refine List.mem_cons_of_mem _ ?_; first | exact List.mem_cons_self | (refine List.mem_cons_of_mem _ ?_; first | exact List.mem_cons_self | (refine List.mem_cons_of_mem _ ?_; first | exact List.mem_cons_self | (refine List.mem_cons_of_mem _ ?_; first | exact List.mem_cons_self | (refine List.mem_cons_of_mem _ ?_; first | exact List.mem_cons_self | (refine List.mem_cons_of_mem _ ?_; first | exact List.mem_cons_self | (refine List.mem_cons_of_mem _ ?_; first | exact List.mem_cons_self | (refine List.mem_cons_of_mem _ ?_; first | exact List.mem_cons_self | (refine List.mem_cons_of_mem _ ?_; first | exact List.mem_cons_self | (refine List.mem_cons_of_mem _ ?_; first | exact List.mem_cons_self | (refine List.mem_cons_of_mem _ ?_; exact List.mem_cons_self))))))))))))))))))))))))); (case w14wuc => (with_reducible first | exact List.mem_cons_self | (refine List.mem_cons_of_mem _ ?_; first | exact List.mem_cons_self | (refine List.mem_cons_of_mem _ ?_; first | exact List.mem_cons_self | (refine List.mem_cons_of_mem _ ?_; first | exact List.mem_cons_self | (refine List.mem_cons_of_mem _ ?_; first | exact List.mem_cons_self | (refine List.mem_cons_of_mem _ ?_; first | exact List.mem_cons_self | (refine List.mem_cons_of_mem _ ?_; first | exact List.mem_cons_self | (refine List.mem_cons_of_mem _ ?_; first | exact List.mem_cons_self | (refine List.mem_cons_of_mem _ ?_; first | exact List.mem_cons_self | (refine List.mem_cons_of_mem _ ?_; first | exact List.mem_cons_self | (refine List.mem_cons_of_mem _ ?_; first | exact List.mem_cons_self | (refine List.mem_cons_of_mem _ ?_; first | exact List.mem_cons_self | (refine List.mem_cons_of_mem _ ?_; first | exact List.mem_cons_self | (refine List.mem_cons_of_mem _ ?_; first | exact List.mem_cons_self | (refine List.mem_cons_of_mem _ ?_; first | exact List.mem_cons_self | (refine List.mem_cons_of_mem _ ?_; first | exact List.mem_cons_self | (refine List.mem_cons_of_mem _ ?_; first | exact List.mem_cons_self | (refine List.mem_cons_of_mem _ ?_; first | exact List.mem_cons_self | (refine List.mem_cons_of_mem _ ?_; first | exact List.mem_cons_self | (refine List.mem_cons_of_mem _ ?_; first | exact List.mem_cons_self | (refine List.mem_cons_of_mem _ ?_; first | exact List.mem_cons_self | (refine List.mem_cons_of_mem _ ?_; first | exact List.mem_cons_self | (refine List.mem_cons_of_mem _ ?_; first | exact List.mem_cons_self | (refine List.mem_cons_of_mem _ ?_; exact List.mem_cons_self))))))))))))))))))))))))))); (case w14whI => assumption); (case w14whl1 => assumption); (case w14whl2 => assumption); (case w14whk0 => ((repeat (rename _ ∧ _ => w14wzz'; clear w14wzz')); (repeat (rename @Ne _ _ _ => w14wzz'; clear w14wzz')); omega)); (case w14whk1 => ((repeat (rename _ ∧ _ => w14wzz'; clear w14wzz')); (repeat (rename @Ne _ _ _ => w14wzz'; clear w14wzz')); omega)); (case w14whm0 => omega); (case w14whm1 => omega); (case w14whdp => ktr_room)); intro w14wr' w14wt' w14wo' w14wk' w14wh' w14wtk' w14whr0' w14whr1' w14wF' w14wN' w14whd'; (try dsimp only at w14wN'))
  k_with "CompSrc" => (k_here; k_dflt (refine LCg.CompSrc.range (by rfl) (by k_asm) (by k_asm) (by assumption) (by first | exact small_one (by kcf_bnd) (by kcf_bnd) (by kcf_bnd) (by kcf_bnd) | decide) (by first | exact rangeSize_nat _ _ | rfl) (by first | exact Nat.le_of_ble_eq_true rfl | (rw [PySem.sizeLine_eq]; omega)) ?_; intro w15wg'; refine' comp_draw 3 ?w15whD ?w15whm ?w15wU (fun w15wi' w15wo' w15wt' w15wys' w15wrs' w15wv' w15wI' w15woI' w15wC' w15woC' w15wD' w15wm' w15wh' w15wtk' w15wE' w15whi' w15whv' w15whD' w15whIs' w15whrl' w15whrs' w15whC' w15whx' w15wF' w15wN' w15woff' w15wne' => ?_) (fun w15wys' w15wrs' w15wo' w15wt' w15whIs' w15whrl' w15whrs' w15whD' => ?_); (case w15whD => assumption); (case w15whm => k_mem); (case w15wU => (refine' PreU.upd (bad := IsDc) ?w15wuP ?w15wuN ?w15wuH; (case w15wuN => k_asm); (case w15wuH => exact IsDc.of (kvs := srcKV _ _ _) (by assumption)); (case w15wuP => ((repeat (first | (with_reducible apply PreU.head) | ((with_reducible apply PreU.tail); focus (with_reducible first | exact Ap.tup | exact Ap.inst | exact Ap.lst | exact Ap.cell (by assumption) | exact Ap.dk (by (rename Kept _ => w15wkk'; have w15wkk2' := Kept.out w15wkk'; clear w15wkk'; k_ne)) | exact ApC.tup | exact ApC.inst | exact ApC.lst | exact ApC.dct | exact ApC.src (by assumption) | exact Ap.ad (by k_ne))))); (repeat (first | exact AllAp.nil | ((with_reducible apply AllAp.cons); focus (with_reducible first | exact Ap.tup | exact Ap.inst | exact Ap.lst | exact Ap.cell (by assumption) | exact Ap.dk (by (rename Kept _ => w15wkk'; have w15wkk2' := Kept.out w15wkk'; clear w15wkk'; k_ne)) | exact ApC.tup | exact ApC.inst | exact ApC.lst | exact ApC.dct | exact ApC.src (by assumption) | exact Ap.ad (by k_ne))) | (with_reducible apply AllAp.app) | exact AllAp.rest (by with_reducible assumption) | exact AllAp.kind (by with_reducible assumption) | exact AllAp.rest (by k_all))))))); (all_goals (try dsimp only at w15wN' w15woff')); (all_goals (try simp only [LCg.Off3, and_true] at w15woff')); (all_goals (try dsimp only))))
  k_with "CompEnd" => (refine' compEnd_draw ?w16wF ?w16wN ?w16woff ?w16whS ?w16whD ?w16wh0 ?w16wh1; (case w16wF => assumption); (case w16wN => assumption); (case w16woff => ((try dsimp only); simp only [LCg.Off3, and_true]; assumption)); (case w16whS => first | exact True.intro | assumption); (case w16whD => assumption); (case w16wh0 => assumption); (case w16wh1 => assumption))
  k_with "storeName" => (k_here; (with_reducible show wpAny _ _ (storeName _ (Str.ofString "known") _) _ _ _); k_dflt (refine' storeX_C ?w17wF ?w17wN ?w17wc ?w17wU ?w17wd ?_ ?w17wa ?w17wb; (case w17wa => rfl); (case w17wb => rfl); (case w17wF => k_asm); (case w17wN => k_asm); (case w17wc => rfl); (case w17wU => (refine' PreU.upd (bad := IsCl) ?w17wuP ?w17wuN ?w17wuH; (case w17wuN => k_asm); (case w17wuH => exact ⟨_, by assumption⟩); (case w17wuP => ((repeat (first | (with_reducible apply PreU.head) | ((with_reducible apply PreU.tail); focus (with_reducible first | exact Ap.tup | exact Ap.inst | exact Ap.lst | exact Ap.cell (by assumption) | exact Ap.dk (by (rename Kept _ => w17wkk'; have w17wkk2' := Kept.out w17wkk'; clear w17wkk'; k_ne)) | exact ApC.tup | exact ApC.inst | exact ApC.lst | exact ApC.dct | exact ApC.src (by assumption) | exact Ap.ad (by k_ne))))); (repeat (first | exact AllAp.nil | ((with_reducible apply AllAp.cons); focus (with_reducible first | exact Ap.tup | exact Ap.inst | exact Ap.lst | exact Ap.cell (by assumption) | exact Ap.dk (by (rename Kept _ => w17wkk'; have w17wkk2' := Kept.out w17wkk'; clear w17wkk'; k_ne)) | exact ApC.tup | exact ApC.inst | exact ApC.lst | exact ApC.dct | exact ApC.src (by assumption) | exact Ap.ad (by k_ne))) | (with_reducible apply AllAp.app) | exact AllAp.rest (by with_reducible assumption) | exact AllAp.kind (by with_reducible assumption) | exact AllAp.rest (by k_all))))))); (case w17wd => k_asm); k_whole); intro w17wh' w17wo' w17wF' w17wN' w17wd'; (try dsimp only at w17wN'))
  k_with "exec Assign cons ListComp" => (k_here; (with_reducible show wpAny _ _ (exec (Stmt.Assign [Expr.Name (Str.ofString "numbers") _] _ _) _) _ _ _); k_dflt (refine assign_comp_tup (F₀ := by k_asm) (by rfl) (by with_unfolding_all rfl) (by with_unfolding_all rfl) (by decide) (by rfl) (by decide) (by rfl) (by rfl) (by rfl) ?_ (fun _ => rfl)))
  k_with "TupSrc" => (k_here; k_dflt (refine TupSrc.intro (by rfl) (by k_asm) (by k_asm) (by (with_reducible first | exact List.mem_cons_self | (refine List.mem_cons_of_mem _ ?_; first | exact List.mem_cons_self | (refine List.mem_cons_of_mem _ ?_; first | exact List.mem_cons_self | (refine List.mem_cons_of_mem _ ?_; first | exact List.mem_cons_self | (refine List.mem_cons_of_mem _ ?_; first | exact List.mem_cons_self | (refine List.mem_cons_of_mem _ ?_; first | exact List.mem_cons_self | (refine List.mem_cons_of_mem _ ?_; first | exact List.mem_cons_self | (refine List.mem_cons_of_mem _ ?_; first | exact List.mem_cons_self | (refine List.mem_cons_of_mem _ ?_; first | exact List.mem_cons_self | (refine List.mem_cons_of_mem _ ?_; first | exact List.mem_cons_self | (refine List.mem_cons_of_mem _ ?_; first | exact List.mem_cons_self | (refine List.mem_cons_of_mem _ ?_; first | exact List.mem_cons_self | (refine List.mem_cons_of_mem _ ?_; first | exact List.mem_cons_self | (refine List.mem_cons_of_mem _ ?_; first | exact List.mem_cons_self | (refine List.mem_cons_of_mem _ ?_; first | exact List.mem_cons_self | (refine List.mem_cons_of_mem _ ?_; first | exact List.mem_cons_self | (refine List.mem_cons_of_mem _ ?_; first | exact List.mem_cons_self | (refine List.mem_cons_of_mem _ ?_; first | exact List.mem_cons_self | (refine List.mem_cons_of_mem _ ?_; first | exact List.mem_cons_self | (refine List.mem_cons_of_mem _ ?_; first | exact List.mem_cons_self | (refine List.mem_cons_of_mem _ ?_; first | exact List.mem_cons_self | (refine List.mem_cons_of_mem _ ?_; first | exact List.mem_cons_self | (refine List.mem_cons_of_mem _ ?_; first | exact List.mem_cons_self | (refine List.mem_cons_of_mem _ ?_; exact List.mem_cons_self))))))))))))))))))))))))) (tup_len (by assumption) (by first | omega | (simp only [List.length_append]; omega))) ?_; intro w19wg'; (refine' comp_pick ?w19whi ?w19whr (fun w19wk' w19wt' w19wI' w19woI' w19wC' w19woC' w19wD' w19wm' w19wys' w19wh' w19wtk' w19wE' w19whk0' w19whk4' w19whC' w19whx' w19wF' w19wN' w19woff' w19wne' => ?_) (fun w19wys' w19wns' w19whI' w19whl' => ?_)); (case w19whi => assumption); (case w19whr => first | assumption | exact List.forall_mem_append.mpr ⟨by assumption, by assumption⟩); (all_goals (try (simp only [LCg.Off3, and_true] at w19woff'))); (all_goals (try simp only [List.length_append] at w19whl')); (all_goals (try dsimp only))))
  k_with "CompEnd" => (k_here; k_dflt (refine' compEnd_pick ?w20wF ?w20wN ?w20woff ?w20whS; (case w20wF => assumption); (case w20wN => assumption); (case w20woff => ((try dsimp only); simp only [LCg.Off3, and_true]; assumption)); (case w20whS => (with_reducible first | exact List.mem_cons_self | (refine List.mem_cons_of_mem _ ?_; first | exact List.mem_cons_self | (refine List.mem_cons_of_mem _ ?_; first | exact List.mem_cons_self | (refine List.mem_cons_of_mem _ ?_; first | exact List.mem_cons_self | (refine List.mem_cons_of_mem _ ?_; first | exact List.mem_cons_self | (refine List.mem_cons_of_mem _ ?_; first | exact List.mem_cons_self | (refine List.mem_cons_of_mem _ ?_; first | exact List.mem_cons_self | (refine List.mem_cons_of_mem _ ?_; first | exact List.mem_cons_self | (refine List.mem_cons_of_mem _ ?_; first | exact List.mem_cons_self | (refine List.mem_cons_of_mem _ ?_; first | exact List.mem_cons_self | (refine List.mem_cons_of_mem _ ?_; first | exact List.mem_cons_self | (refine List.mem_cons_of_mem _ ?_; first | exact List.mem_cons_self | (refine List.mem_cons_of_mem _ ?_; first | exact List.mem_cons_self | (refine List.mem_cons_of_mem _ ?_; first | exact List.mem_cons_self | (refine List.mem_cons_of_mem _ ?_; first | exact List.mem_cons_self | (refine List.mem_cons_of_mem _ ?_; first | exact List.mem_cons_self | (refine List.mem_cons_of_mem _ ?_; first | exact List.mem_cons_self | (refine List.mem_cons_of_mem _ ?_; first | exact List.mem_cons_self | (refine List.mem_cons_of_mem _ ?_; first | exact List.mem_cons_self | (refine List.mem_cons_of_mem _ ?_; first | exact List.mem_cons_self | (refine List.mem_cons_of_mem _ ?_; first | exact List.mem_cons_self | (refine List.mem_cons_of_mem _ ?_; first | exact List.mem_cons_self | (refine List.mem_cons_of_mem _ ?_; first | exact List.mem_cons_self | (refine List.mem_cons_of_mem _ ?_; exact List.mem_cons_self)))))))))))))))))))))))))))
  k_with "compareOp NotEq bool bool" => (k_here; with_reducible refine ne_bool_same ?_)
  k_with "call ref" => (k_here; (with_reducible show wpAny _ _ (call (Value.ref 260) [Value.ref _, Value.ref _]) _ _ _); k_dflt (refine' kp_g ?w22wB ?w22wF ?w22wX ?w22wN ?w22wT (by first | exact rfl | assumption) ?w22wht ?w22whs ?w22whv ?w22whI ?w22whn ?w22whdp ?w22whun ?_; (case w22wht => assumption); (case w22wB => k_asm); (case w22wF => k_asm); (case w22wX => k_asm); (case w22wT => k_asm); (case w22wN => k_asm); (case w22whs => (intro w22we9' w22whe9'; with_reducible repeat (first | exact w22whe9' | exact List.mem_append_right _ w22whe9' | refine List.mem_append_left _ ?_ | refine List.mem_cons_of_mem _ ?_))); (case w22whv => (with_reducible first | exact List.mem_cons_self | (refine List.mem_cons_of_mem _ ?_; first | exact List.mem_cons_self | (refine List.mem_cons_of_mem _ ?_; first | exact List.mem_cons_self | (refine List.mem_cons_of_mem _ ?_; first | exact List.mem_cons_self | (refine List.mem_cons_of_mem _ ?_; first | exact List.mem_cons_self | (refine List.mem_cons_of_mem _ ?_; first | exact List.mem_cons_self | (refine List.mem_cons_of_mem _ ?_; first | exact List.mem_cons_self | (refine List.mem_cons_of_mem _ ?_; first | exact List.mem_cons_self | (refine List.mem_cons_of_mem _ ?_; first | exact List.mem_cons_self | (refine List.mem_cons_of_mem _ ?_; first | exact List.mem_cons_self | (refine List.mem_cons_of_mem _ ?_; first | exact List.mem_cons_self | (refine List.mem_cons_of_mem _ ?_; first | exact List.mem_cons_self | (refine List.mem_cons_of_mem _ ?_; first | exact List.mem_cons_self | (refine List.mem_cons_of_mem _ ?_; first | exact List.mem_cons_self | (refine List.mem_cons_of_mem _ ?_; first | exact List.mem_cons_self | (refine List.mem_cons_of_mem _ ?_; first | exact List.mem_cons_self | (refine List.mem_cons_of_mem _ ?_; first | exact List.mem_cons_self | (refine List.mem_cons_of_mem _ ?_; first | exact List.mem_cons_self | (refine List.mem_cons_of_mem _ ?_; first | exact List.mem_cons_self | (refine List.mem_cons_of_mem _ ?_; first | exact List.mem_cons_self | (refine List.mem_cons_of_mem _ ?_; first | exact List.mem_cons_self | (refine List.mem_cons_of_mem _ ?_; first | exact List.mem_cons_self | (refine List.mem_cons_of_mem _ ?_; first | exact List.mem_cons_self | (refine List.mem_cons_of_mem _ ?_; exact List.mem_cons_self))))))))))))))))))))))))); (case w22whI => assumption); (case w22whn => assumption); (case w22whdp => ktr_room); (case w22whun => ktr_units)); intro w22wh' w22wtk' w22wF' w22wN')
  k_with "call ref" => (k_here; (with_reducible show wpAny _ _ (call (Value.ref (Way.fC _)) [Value.ref _, Value.ref _]) _ _ _); k_dflt (refine' chkl_g ?w23wB ?w23wF ?w23wX ?w23wN ?w23wT (by first | exact rfl | assumption) ?w23wht ?w23wR ?w23whs ?w23whv ?w23whI ?w23whn ?w23whdp ?w23whun ?_; (case w23wR => assumption); (case w23wht => assumption); (case w23wB => k_asm); (case w23wF => k_asm); (case w23wX => k_asm); (case w23wT => k_asm); (case w23wN => k_asm); (case w23whs => (intro w23we9' w23whe9'; with_reducible repeat (first | exact w23whe9' | exact List.mem_append_right _ w23whe9' | refine List.mem_append_left _ ?_ | refine List.mem_cons_of_mem _ ?_))); (case w23whv => (with_reducible first | exact List.mem_cons_self | (refine List.mem_cons_of_mem _ ?_; first | exact List.mem_cons_self | (refine List.mem_cons_of_mem _ ?_; first | exact List.mem_cons_self | (refine List.mem_cons_of_mem _ ?_; first | exact List.mem_cons_self | (refine List.mem_cons_of_mem _ ?_; first | exact List.mem_cons_self | (refine List.mem_cons_of_mem _ ?_; first | exact List.mem_cons_self | (refine List.mem_cons_of_mem _ ?_; first | exact List.mem_cons_self | (refine List.mem_cons_of_mem _ ?_; first | exact List.mem_cons_self | (refine List.mem_cons_of_mem _ ?_; first | exact List.mem_cons_self | (refine List.mem_cons_of_mem _ ?_; first | exact List.mem_cons_self | (refine List.mem_cons_of_mem _ ?_; first | exact List.mem_cons_self | (refine List.mem_cons_of_mem _ ?_; first | exact List.mem_cons_self | (refine List.mem_cons_of_mem _ ?_; first | exact List.mem_cons_self | (refine List.mem_cons_of_mem _ ?_; first | exact List.mem_cons_self | (refine List.mem_cons_of_mem _ ?_; first | exact List.mem_cons_self | (refine List.mem_cons_of_mem _ ?_; first | exact List.mem_cons_self | (refine List.mem_cons_of_mem _ ?_; first | exact List.mem_cons_self | (refine List.mem_cons_of_mem _ ?_; first | exact List.mem_cons_self | (refine List.mem_cons_of_mem _ ?_; first | exact List.mem_cons_self | (refine List.mem_cons_of_mem _ ?_; first | exact List.mem_cons_self | (refine List.mem_cons_of_mem _ ?_; first | exact List.mem_cons_self | (refine List.mem_cons_of_mem _ ?_; first | exact List.mem_cons_self | (refine List.mem_cons_of_mem _ ?_; first | exact List.mem_cons_self | (refine List.mem_cons_of_mem _ ?_; exact List.mem_cons_self))))))))))))))))))))))))); (case w23whI => assumption); (case w23whn => assumption); (case w23whdp => ktr_room); (case w23whun => ktr_units)); intro w23wh' w23wtk' w23wF' w23wN')
  k_with "call ref" => (k_here; (with_reducible show wpAny _ _ (call (Value.ref (Way.fC _)) [Value.ref _, Value.ref _]) _ _ _); k_dflt (refine' chkt_g ?w24wB ?w24wF ?w24wX ?w24wN ?w24wT (by first | exact rfl | assumption) ?w24wht ?w24wR ?w24whs ?w24whv ?w24whI ?w24whn ?w24whdp ?w24whun ?_; (case w24wR => assumption); (case w24wht => assumption); (case w24wB => k_asm); (case w24wF => k_asm); (case w24wX => k_asm); (case w24wT => k_asm); (case w24wN => k_asm); (case w24whs => (intro w24we9' w24whe9'; with_reducible repeat (first | exact w24whe9' | exact List.mem_append_right _ w24whe9' | refine List.mem_append_left _ ?_ | refine List.mem_cons_of_mem _ ?_))); (case w24whv => (with_reducible first | exact List.mem_cons_self | (refine List.mem_cons_of_mem _ ?_; first | exact List.mem_cons_self | (refine List.mem_cons_of_mem _ ?_; first | exact List.mem_cons_self | (refine List.mem_cons_of_mem _ ?_; first | exact List.mem_cons_self | (refine List.mem_cons_of_mem _ ?_; first | exact List.mem_cons_self | (refine List.mem_cons_of_mem _ ?_; first | exact List.mem_cons_self | (refine List.mem_cons_of_mem _ ?_; first | exact List.mem_cons_self | (refine List.mem_cons_of_mem _ ?_; first | exact List.mem_cons_self | (refine List.mem_cons_of_mem _ ?_; first | exact List.mem_cons_self | (refine List.mem_cons_of_mem _ ?_; first | exact List.mem_cons_self | (refine List.mem_cons_of_mem _ ?_; first | exact List.mem_cons_self | (refine List.mem_cons_of_mem _ ?_; first | exact List.mem_cons_self | (refine List.mem_cons_of_mem _ ?_; first | exact List.mem_cons_self | (refine List.mem_cons_of_mem _ ?_; first | exact List.mem_cons_self | (refine List.mem_cons_of_mem _ ?_; first | exact List.mem_cons_self | (refine List.mem_cons_of_mem _ ?_; first | exact List.mem_cons_self | (refine List.mem_cons_of_mem _ ?_; first | exact List.mem_cons_self | (refine List.mem_cons_of_mem _ ?_; first | exact List.mem_cons_self | (refine List.mem_cons_of_mem _ ?_; first | exact List.mem_cons_self | (refine List.mem_cons_of_mem _ ?_; first | exact List.mem_cons_self | (refine List.mem_cons_of_mem _ ?_; first | exact List.mem_cons_self | (refine List.mem_cons_of_mem _ ?_; first | exact List.mem_cons_self | (refine List.mem_cons_of_mem _ ?_; first | exact List.mem_cons_self | (refine List.mem_cons_of_mem _ ?_; exact List.mem_cons_self))))))))))))))))))))))))); (case w24whI => assumption); (case w24whn => assumption); (case w24whdp => ktr_room); (case w24whun => ktr_units)); intro w24wh' w24wtk' w24wF' w24wN')
  k_go0
  all_goals try k_fold
  k_steps)
end
end Mine
theorem PySem.Challenge.cw_nz0011_01_holds : PySem.Challenge.rw_nz0011_01.Holds := by
  exact Mine.whole
