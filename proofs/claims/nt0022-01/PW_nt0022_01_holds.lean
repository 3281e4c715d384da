import PyProof.Rows.All
import Wide.All
import OpenK.AllK
import Wide.FinOn
import KE.KDictOf
import PyProof.AttrMissHeap
import PyProof.SliceMore
import PySem.Challenge.RW_nt0022_01
set_option Elab.async false
section
open PySem PySem.W PyProof.Rows
set_option maxRecDepth 100000
namespace Nt
theorem said0 : OpenLaw.wellSaid PySem.Challenge.rw_nt0022_01 = true := by
  rw [PySem.W.Fast.te9446332074065402090]
  kernel_rfl
section
theorem hw_of {A : Prop} (_ : True) (h : A) : A := h
local macro_rules | `(tactic| o_law) => `(tactic| refine holds_law said0 fun said => ?_)
local macro_rules | `(tactic| o_head $_) => `(tactic| refine hw_of ?hw ?hc)
local macro_rules | `(tactic| w_witness2) => `(tactic| trivial)
set_option maxHeartbeats 8000000 in
open_top hk for PySem.Challenge.rw_nt0022_01
end
end Nt
end
section
open PySem PySem.W PyProof.Rows PySem.Calls
set_option maxRecDepth 100000
set_option autoImplicit false
namespace Nt
noncomputable abbrev rr : RowW := OpenRow.toRowW PySem.Challenge.rw_nt0022_01.row
noncomputable abbrev pp : Program := RowW.prog rr
noncomputable def q0 : Program := view pp [0, 2, 3, 5, 6, 7, 8, 9, 10, 11, 12, 13, 14, 16, 17, 18, 23, 24, 26, 28, 29, 31, 32, 33, 34, 35, 36, 37, 38, 39]
noncomputable def loose0 : List Str := ["CodeSet", "fold_simple", "fold_full", "caseless_default", "matches_default", "fold_find", "_law_pool"]
noncomputable def as0 : List Addr := [2, 3, 15, 17, 18, 20, 21, 22, 24, 25, 27, 28, 29, 31, 32, 34, 35, 36, 39, 40, 41, 43, 44, 46, 47, 48, 50, 51, 53, 54, 62, 63, 65, 66, 68, 69, 70, 72, 73, 75, 76, 77, 78, 79, 80, 82, 83, 85, 86, 87, 90, 91, 92, 94, 95, 97, 98, 99, 101, 102, 104, 105, 106, 108, 109, 111, 112, 113, 115, 116, 118, 119, 120, 122, 123, 125, 126, 127, 129, 130, 132, 133, 134, 136, 137, 139, 140, 141, 143, 144, 146, 147, 148, 149, 150, 151, 152, 155, 158, 159, 160, 162, 163, 165, 166, 167, 169, 170, 172, 173, 181, 183, 184, 186, 187, 188, 190, 191, 193, 194, 195, 197, 198, 200, 201, 202, 205, 206, 207, 209, 210, 212, 213, 214, 215, 216, 217, 218, 221, 223, 224, 226, 227, 228, 230, 231, 233, 234, 235, 237, 238, 240, 241, 242, 244, 245, 247, 248, 249, 250, 252, 253, 255, 256, 257, 258, 260, 261, 263, 264, 265, 266, 268, 269, 271, 272, 273, 274, 276, 277, 279, 280, 288, 289, 291, 292, 294, 295, 296, 298, 299, 301, 302, 303, 305, 306, 308, 309, 310, 312, 313, 315, 316, 317, 319, 320, 322, 323, 324, 326, 327, 329, 330, 331, 333, 334, 336, 337, 338, 339, 340, 341, 342, 345, 347, 348, 350, 351, 352, 353, 355, 356, 358, 359, 360, 362, 363, 365, 366, 367, 369, 370, 372, 373, 381, 383, 384, 386, 387, 388, 390, 391, 393, 394, 395, 397, 398, 400, 401, 402, 404, 405, 407, 408, 409, 410, 411, 412, 413, 416, 417, 420, 421, 422, 424, 425, 427, 428, 429, 431, 432, 434, 435, 436, 438, 439, 441, 442, 443, 445, 446, 448, 449, 450, 453, 454, 455, 458, 459, 460, 463, 464]
noncomputable abbrev Xt0 : Shared → Bool := fun s => xlAt q0 [] s && recOk (RowW.records rr) s
noncomputable def hook0 : Hook := kHook Nt.hk.heap_1 as0 (fun _ => by kernel_rfl)
end Nt
end
section
local macro_rules | `(tactic| omega) => `(tactic| first | assumption | exact Nat.le_trans (by assumption) (by decide) | exact Nat.lt_of_le_of_lt (by assumption) (by decide) | lia | omega (config := {}))
section
open PySem PySem.W PyProof.Rows PySem.Calls
set_option maxRecDepth 100000
set_option autoImplicit false
set_option linter.unusedVariables false
namespace Nt
structure A11 (p1 p2 p3 p4 p5 p6 p7 p8 p9 p10 p11 : Prop) : Prop where
  h1 : p1
  h2 : p2
  h3 : p3
  h4 : p4
  h5 : p5
  h6 : p6
  h7 : p7
  h8 : p8
  h9 : p9
  h10 : p10
  h11 : p11
structure A12 (p1 p2 p3 p4 p5 p6 p7 p8 p9 p10 p11 p12 : Prop) : Prop where
  h1 : p1
  h2 : p2
  h3 : p3
  h4 : p4
  h5 : p5
  h6 : p6
  h7 : p7
  h8 : p8
  h9 : p9
  h10 : p10
  h11 : p11
  h12 : p12
structure A3 (p1 p2 p3 : Prop) : Prop where
  h1 : p1
  h2 : p2
  h3 : p3
structure A4 (p1 p2 p3 p4 : Prop) : Prop where
  h1 : p1
  h2 : p2
  h3 : p3
  h4 : p4
structure A6 (p1 p2 p3 p4 p5 p6 : Prop) : Prop where
  h1 : p1
  h2 : p2
  h3 : p3
  h4 : p4
  h5 : p5
  h6 : p6
inductive E2_2 {α1 α2 : Type} (p1 p2 : α1 → α2 → Prop) : Prop
  | mk (a : α1) (b : α2) (h1 : p1 a b) (h2 : p2 a b)
inductive E2_3 {α1 α2 : Type} (p1 p2 p3 : α1 → α2 → Prop) : Prop
  | mk (a : α1) (b : α2) (h1 : p1 a b) (h2 : p2 a b) (h3 : p3 a b)
inductive E3_5 {α1 α2 α3 : Type} (p1 p2 p3 p4 p5 : α1 → α2 → α3 → Prop) : Prop
  | mk (a : α1) (b : α2) (c : α3) (h1 : p1 a b c) (h2 : p2 a b c) (h3 : p3 a b c) (h4 : p4 a b c) (h5 : p5 a b c)
inductive X2 {α1 α2 : Type} (p : α1 → α2 → Prop) : Prop
  | mk (a : α1) (b : α2) (h : p a b)
inductive X3 {α1 α2 α3 : Type} (p : α1 → α2 → α3 → Prop) : Prop
  | mk (a : α1) (b : α2) (c : α3) (h : p a b c)
inductive X4 {α1 α2 α3 α4 : Type} (p : α1 → α2 → α3 → α4 → Prop) : Prop
  | mk (a : α1) (b : α2) (c : α3) (d : α4) (h : p a b c d)
noncomputable abbrev prg : Program := PySem.Challenge.pw_nt0022_01
noncomputable abbrev KK (w : World) : Frag := hk.heap_1 w.params
noncomputable abbrev OP := Obj → Prop
noncomputable abbrev Led := List (Addr × OP)
noncomputable abbrev Vars := List (Str × Option Value)
noncomputable def lk : Vars → Str → Option Value
  | [], _ => none
  | (y, u) :: r, x => if y = x then u else lk r x
noncomputable def stv : Vars → Str → Value → Vars
  | [], x, v => [(x, some v)]
  | (y, u) :: r, x, v => if y = x then (y, some v) :: r else (y, u) :: stv r x v
theorem lk_stv (x : Str) (v : Value) : ∀ m : Vars, lk (stv m x v) = fun y => if y = x then some v else lk m y
  | [] => by
    funext y
    simp only [stv, lk]
    by_cases h : x = y
    · rw [if_pos h, if_pos h.symm]
    · rw [if_neg h, if_neg (Ne.symm h)]
  | (z, u) :: r => by
    have ih := lk_stv x v r
    funext y
    simp only [stv]
    by_cases hz : z = x
    · subst hz
      rw [if_pos rfl]
      simp only [lk]
      by_cases h : z = y
      · rw [if_pos h, if_pos h.symm]
      · rw [if_neg h, if_neg (Ne.symm h), if_neg h]
    · rw [if_neg hz]
      simp only [lk, ih]
      by_cases h : z = y
      · rw [if_pos h, if_neg (fun e => hz (h.trans e)), if_pos h]
      · rw [if_neg h, if_neg h]
noncomputable def Has (h : Heap) (a : Addr) (p : OP) : Prop := ∃ o, h.get? a = some o ∧ p o
theorem Has.keeps {h h' : Heap} {a : Addr} {p : OP} (x : Has h a p) (k : ∀ b o, h.get? b = some o → h'.get? b = some o) : Has h' a p :=
  let ⟨o, ho, r⟩ := x; ⟨o, k _ _ ho, r⟩
structure Base (w : World) (G : Heap) : Prop where
  inK : (KK w).In G
  ns : X2 fun mg mb => A3 (G.Ns mainGlobals mg) (G.Ns builtinsNs mb) (∀ x : Str, x ≠ "__name__" → mb x = bootBuiltins x)
  nolimit : G.NoLimit
theorem Base.keeps {w : World} {G G' : Heap} (B : Base w G) (k : ∀ b o, G.get? b = some o → G'.get? b = some o) : Base w G' :=
  ⟨B.inK.keeps k, let ⟨mg, mb, a, b, c⟩ := B.ns; ⟨mg, mb, a.keeps k, b.keeps k, c⟩, B.nolimit.keeps k⟩
structure St (w : World) (G : Heap) (L : Addr) (P N : Led) (m : Vars) (h : Heap) : Prop where
  base : Base w G
  keep : ∀ b o, G.get? b = some o → h.get? b = some o
  ns : h.Ns L (lk m)
  out : G.get? L = none
  nw : ∀ p ∈ N, Has h p.1 p.2 ∧ p.1 ≠ L ∧ G.get? p.1 = none
  nd : (N.map (·.1)).Nodup
  ps : ∀ p ∈ P, Has h p.1 p.2 ∧ p.1 ≠ L ∧ p.1 ∉ N.map (·.1)
section
variable {w : World} {G : Heap} {L : Addr} {P N : Led} {m : Vars} {h h' : Heap}
theorem St.base' (S : St w G L P N m h) : Base w h := S.base.keeps S.keep
theorem St.grow (S : St w G L P N m h) (k : ∀ b o, h.get? b = some o → h'.get? b = some o) : St w G L P N m h' :=
  ⟨S.base, fun b o e => k _ _ (S.keep b o e), S.ns.keeps k, S.out, fun p hp => ⟨(S.nw p hp).1.keeps k, (S.nw p hp).2⟩, S.nd, fun p hp => ⟨(S.ps p hp).1.keeps k, (S.ps p hp).2⟩⟩
theorem St.there (S : St w G L P N m h) : ∃ o, h.get? L = some o := let ⟨o, _, _, ho, _⟩ := S.ns; ⟨o, ho⟩
theorem none_of_keep {a : Addr} (k : ∀ b o, G.get? b = some o → h.get? b = some o) (e : h.get? a = none) : G.get? a = none := by
  cases q : G.get? a with
  | none => rfl
  | some o => rw [k _ _ q] at e; cases e
theorem St.fresh {a : Addr} (S : St w G L P N m h) (e : h.get? a = none) : a ≠ L ∧ a ∉ N.map (·.1) ∧ a ∉ P.map (·.1) ∧ G.get? a = none := by
  refine ⟨fun q => ?_, fun q => ?_, fun q => ?_, none_of_keep S.keep e⟩
  · obtain ⟨o, ho⟩ := S.there
    rw [q, ho] at e; cases e
  · obtain ⟨p, hp, rfl⟩ := List.mem_map.mp q
    obtain ⟨o, ho, _⟩ := (S.nw p hp).1
    rw [ho] at e; cases e
  · obtain ⟨p, hp, rfl⟩ := List.mem_map.mp q
    obtain ⟨o, ho, _⟩ := (S.ps p hp).1
    rw [ho] at e; cases e
/-- a new object onto the ledger -/
theorem St.new {a : Addr} {p : OP} (S : St w G L P N m h) (e : h.get? a = none) (k : ∀ b o, h.get? b = some o → h'.get? b = some o) (hp : Has h' a p) : St w G L P ((a, p) :: N) m h' := by
  obtain ⟨f1, f2, f3, f4⟩ := S.fresh e
  have S' := S.grow k
  refine ⟨S.base, S'.keep, S'.ns, S.out, fun q hq => ?_, ?_, fun q hq => ⟨(S'.ps q hq).1, (S'.ps q hq).2.1, fun hm => ?_⟩⟩
  · rcases List.mem_cons.mp hq with rfl | hq
    · exact ⟨hp, f1, f4⟩
    · exact S'.nw q hq
  · rw [List.map_cons, List.nodup_cons]; exact ⟨f2, S.nd⟩
  · rw [List.map_cons] at hm
    rcases List.mem_cons.mp hm with e1 | hm
    · exact f3 ((show q.1 = a from e1) ▸ List.mem_map_of_mem hq)
    · exact (S'.ps q hq).2.2 hm
/-- a fact that stays -/
theorem St.pin {a : Addr} {p : OP} (S : St w G L P N m h) (hp : Has h a p) (h1 : a ≠ L) (h2 : a ∉ N.map (·.1)) : St w G L ((a, p) :: P) N m h :=
  ⟨S.base, S.keep, S.ns, S.out, S.nw, S.nd, fun q hq => by
    rcases List.mem_cons.mp hq with rfl | hq
    · exact ⟨hp, h1, h2⟩
    · exact S.ps q hq⟩
theorem St.set {x : Str} {v : Value} (S : St w G L P N m h) (hn : h'.Ns L (fun y => if y = x then some v else lk m y)) (hs : Heap.SameBut L h h') : St w G L P N (stv m x v) h' :=
  ⟨S.base, fun b o e => (hs.2 b (fun q => by rw [q, S.out] at e; cases e)).trans (S.keep b o e), by rw [lk_stv]; exact hn, S.out,
    fun p hp => ⟨let ⟨o, ho, r⟩ := (S.nw p hp).1; ⟨o, (hs.2 _ (S.nw p hp).2.1).trans ho, r⟩, (S.nw p hp).2⟩, S.nd,
    fun p hp => ⟨let ⟨o, ho, r⟩ := (S.ps p hp).1; ⟨o, (hs.2 _ (S.ps p hp).2.1).trans ho, r⟩, (S.ps p hp).2⟩⟩
end
inductive Upd (a : Addr) (p p' : OP) : Led → Led → Prop
  | head {r : Led} : Upd a p p' ((a, p) :: r) ((a, p') :: r)
  | tail {q : Addr × OP} {r r' : Led} : Upd a p p' r r' → Upd a p p' (q :: r) (q :: r')
theorem Upd.keys {a : Addr} {p p' : OP} {N N' : Led} (u : Upd a p p' N N') : N'.map (·.1) = N.map (·.1) := by
  induction u with
  | head => rfl
  | tail _ ih => rw [List.map_cons, List.map_cons, ih]
theorem Upd.mem {a : Addr} {p p' : OP} {N N' : Led} (u : Upd a p p' N N') : (a, p) ∈ N := by
  induction u with
  | head => exact .head _
  | tail _ ih => exact .tail _ ih
theorem Upd.cases {a : Addr} {p p' : OP} {N N' : Led} (u : Upd a p p' N N') (nd : (N.map (·.1)).Nodup) : ∀ q ∈ N', q = (a, p') ∨ (q ∈ N ∧ q.1 ≠ a) := by
  induction u with
  | head =>
    intro q hq
    rw [List.map_cons, List.nodup_cons] at nd
    rcases List.mem_cons.mp hq with rfl | hq
    · exact .inl rfl
    · exact .inr ⟨.tail _ hq, fun e => nd.1 (List.mem_map.mpr ⟨q, hq, e⟩)⟩
  | @tail q₀ r r' u ih =>
    intro q hq
    rw [List.map_cons, List.nodup_cons] at nd
    rcases List.mem_cons.mp hq with rfl | hq
    · exact .inr ⟨.head _, fun e => nd.1 (List.mem_map.mpr ⟨_, u.mem, e.symm⟩)⟩
    · rcases ih nd.2 q hq with h | h
      · exact .inl h
      · exact .inr ⟨.tail _ h.1, h.2⟩
section
variable {w : World} {G : Heap} {L : Addr} {P N N' : Led} {m : Vars} {h h' : Heap}
theorem St.upd {a : Addr} {p p' : OP} (S : St w G L P N m h) (u : Upd a p p' N N') (k : ∀ b o, b ≠ a → h.get? b = some o → h'.get? b = some o) (hp : Has h' a p') : St w G L P N' m h' := by
  have ha := S.nw _ u.mem
  refine ⟨S.base, fun b o e => k b o (fun q => by rw [q] at e; rw [ha.2.2] at e; cases e) (S.keep b o e), ?_, S.out, fun q hq => ?_, by rw [u.keys]; exact S.nd, fun q hq => ?_⟩
  · obtain ⟨o, es, ep, ho, r⟩ := S.ns
    exact ⟨o, es, ep, k _ _ (Ne.symm ha.2.1) ho, r⟩
  · rcases u.cases S.nd q hq with rfl | ⟨hq, hne⟩
    · exact ⟨hp, ha.2⟩
    · exact ⟨let ⟨o, ho, r⟩ := (S.nw q hq).1; ⟨o, k _ _ hne ho, r⟩, (S.nw q hq).2⟩
  · have hne : q.1 ≠ a := fun e => (S.ps q hq).2.2 (List.mem_map.mpr ⟨_, u.mem, e.symm⟩)
    exact ⟨let ⟨o, ho, r⟩ := (S.ps q hq).1; ⟨o, k _ _ hne ho, r⟩, (S.ps q hq).2.1, by rw [u.keys]; exact (S.ps q hq).2.2⟩
theorem St.dropN {q : Addr × OP} (S : St w G L P (q :: N) m h) : St w G L P N m h :=
  ⟨S.base, S.keep, S.ns, S.out, fun p hp => S.nw p (.tail _ hp), (List.nodup_cons.mp S.nd).2, fun p hp => ⟨(S.ps p hp).1, (S.ps p hp).2.1, fun e => (S.ps p hp).2.2 (List.mem_cons_of_mem _ e)⟩⟩
theorem St.subP {P' : Led} (S : St w G L P N m h) (hs : ∀ p ∈ P', p ∈ P) : St w G L P' N m h :=
  ⟨S.base, S.keep, S.ns, S.out, S.nw, S.nd, fun p hp => S.ps p (hs p hp)⟩
theorem St.subN (S : St w G L P N m h) (hs : List.Sublist N' N) : St w G L P N' m h :=
  ⟨S.base, S.keep, S.ns, S.out, fun p hp => S.nw p (hs.subset hp), S.nd.sublist (hs.map _), fun p hp => ⟨(S.ps p hp).1, (S.ps p hp).2.1, fun e => (S.ps p hp).2.2 ((hs.map _).subset e)⟩⟩
/-- an object of the ledger that is read only from here on -/
theorem St.freeze {q : Addr × OP} (S : St w G L P (q :: N) m h) : St w G L (q :: P) N m h := by
  have nd := S.nd
  rw [List.map_cons, List.nodup_cons] at nd
  refine ⟨S.base, S.keep, S.ns, S.out, fun p hp => S.nw p (.tail _ hp), nd.2, fun p hp => ?_⟩
  rcases List.mem_cons.mp hp with rfl | hp
  · exact ⟨(S.nw _ (.head _)).1, (S.nw _ (.head _)).2.1, nd.1⟩
  · exact ⟨(S.ps p hp).1, (S.ps p hp).2.1, fun e => (S.ps p hp).2.2 (List.mem_cons_of_mem _ e)⟩
/-- what may be read -/
noncomputable def Rd (G : Heap) (P N : Led) (a : Addr) (p : OP) : Prop := (a, p) ∈ N ∨ (a, p) ∈ P ∨ Has G a p
theorem St.rd {a : Addr} {p : OP} (S : St w G L P N m h) (r : Rd G P N a p) : Has h a p := by
  rcases r with r | r | r
  · exact (S.nw _ r).1
  · exact (S.ps _ r).1
  · exact r.keeps S.keep
end
structure Room (d : Nat) (A : Around) : Prop where
  handled : A.handled = none
  depth : A.depth + d < recursionLimit
  units : A.units + 10 * d + 200 < cLine
theorem Room.le {d d' : Nat} {A : Around} (r : Room d A) (h : d' ≤ d) : Room d' A := ⟨r.handled, by have := r.depth; omega, by have := r.units; omega⟩
theorem Room.deeper {d : Nat} {A : Around} (r : Room (d + 1) A) (e : Env) : Room d (A.deeper e) := ⟨r.handled, by have := r.depth; show A.depth + 1 + d < _; omega, by have := r.units; show A.units + 3 + 10 * d + 200 < _; omega⟩
theorem Room.lt {d : Nat} {A : Around} (r : Room d A) : A.depth < recursionLimit := by have := r.depth; omega
theorem Room.cl {d : Nat} {A : Around} (r : Room d A) : A.units < cLine := by have := r.units; omega
theorem Room.cl1 {d : Nat} {A : Around} (r : Room d A) : A.in1.units < cLine := by have := r.units; show A.units + 1 < _; omega
/-- where a walk stands: a state of the heap, and what holds of it -/
inductive At (w : World) (G : Heap) (L : Addr) (h : Heap) (Q : Led → Led → Vars → Prop) : Prop
  | mk (P N : Led) (m : Vars) (st : St w G L P N m h) (q : Q P N m)
inductive Done {α : Type} (w : World) (G : Heap) (L : Addr) (s : Shared) (Q : α → Led → Led → Vars → Prop) (a : α) (s' : Shared) : Prop
  | mk (h' : Heap) (tk : Nat) (e : s' = { s with heap := h', toks := tk }) (P' N' : Led) (m' : Vars) (st : St w G L P' N' m' h') (q : Q a P' N' m')
noncomputable abbrev Nope : Value → Shared → Prop := fun _ _ => False
structure W {α : Type} (w : World) (G : Heap) (L : Addr) (d : Nat) (t : Sem α) (P N : Led) (m : Vars) (Q : α → Led → Led → Vars → Prop) : Prop where
  mk ::
  run : ∀ (A : Around) (s : Shared), Room d A → St w G L P N m s.heap → wpAny (model prg w) A t (Done w G L s Q) Nope s
section
variable {α β γ : Type} (w : World) (G : Heap) (L : Addr) (d : Nat)
/-- f of what came -/
noncomputable def Kt (f : α → Sem β) (Q : β → Led → Led → Vars → Prop) : α → Led → Led → Vars → Prop := fun a P N m => W w G L d (f a) P N m Q
/-- first t, then g of both -/
noncomputable def Kt2 (t : Sem β) (g : α → β → Sem γ) (Q : γ → Led → Led → Vars → Prop) : α → Led → Led → Vars → Prop := fun a P N m => W w G L d t P N m (Kt w G L d (g a) Q)
/-- two ways, by a bool -/
structure Kif (t e : Sem α) (Q : α → Led → Led → Vars → Prop) (c : Bool) (P N : Led) (m : Vars) : Prop where
  t : c = true → W w G L d t P N m Q
  e : c = false → W w G L d e P N m Q
end
noncomputable def anyQ {α : Type} (QF : Flow → Led → Led → Vars → Prop) : α → Led → Led → Vars → Prop := fun _ => QF .next
noncomputable def retQ (QF : Flow → Led → Led → Vars → Prop) : Value → Led → Led → Vars → Prop := fun v => QF (.ret v)
noncomputable def consQ {α : Type} (QL : List α → Led → Led → Vars → Prop) (v : α) : List α → Led → Led → Vars → Prop := fun vs => QL (v :: vs)
noncomputable def notQ (QB : Bool → Led → Led → Vars → Prop) : Bool → Led → Led → Vars → Prop := fun b => QB (!b)
section
variable {α β : Type} {w : World} {G : Heap} {L : Addr} {d : Nat} {P N : Led} {m : Vars} {Q : α → Led → Led → Vars → Prop}
theorem Done.from {s : Shared} {h : Heap} {tk : Nat} {a : α} {s' : Shared} (x : Done w G L { s with heap := h, toks := tk } Q a s') : Done w G L s Q a s' :=
  let ⟨h', tk', e, P', N', m', S, q⟩ := x; ⟨h', tk', e, P', N', m', S, q⟩
theorem Done.here {s : Shared} {h : Heap} {tk : Nat} {a : α} {P' N' : Led} {m' : Vars} (S : St w G L P' N' m' h) (q : Q a P' N' m') : Done w G L s Q a { s with heap := h, toks := tk } :=
  ⟨h, tk, rfl, P', N', m', S, q⟩
theorem Done.mono {Q' : α → Led → Led → Vars → Prop} {s s' : Shared} {a : α} (x : Done w G L s Q a s') (k : ∀ P' N' m', Q a P' N' m' → Q' a P' N' m') : Done w G L s Q' a s' :=
  let ⟨h', tk', e, P', N', m', S, q⟩ := x; ⟨h', tk', e, P', N', m', S, k _ _ _ q⟩
/-- run t, then go on from where it ends -/
theorem W.go {R : α → Shared → Prop} {E : Value → Shared → Prop} {A : Around} {s : Shared} {t : Sem α} (x : W w G L d t P N m Q) (r : Room d A) (S : St w G L P N m s.heap)
    (k : ∀ a h' tk P' N' m', St w G L P' N' m' h' → Q a P' N' m' → R a { s with heap := h', toks := tk }) : wpAny (model prg w) A t R E s :=
  wpAny_mono (x.run A s r S) (fun a s' ⟨h', tk, e, P', N', m', S', q⟩ => by rw [e]; exact k a h' tk P' N' m' S' q) fun _ _ z => z.elim
theorem W.at {t : Sem α} {E : Value → Shared → Prop} {A : Around} {s : Shared} {h : Heap} {tk : Nat} (x : W w G L d t P N m Q) (r : Room d A) (S : St w G L P N m h) : wpAny (model prg w) A t (Done w G L s Q) E { s with heap := h, toks := tk } :=
  wpAny_mono (x.run A { s with heap := h, toks := tk } r S) (fun _ _ y => y.from) fun _ _ z => z.elim
theorem Done.cons {QL : List β → Led → Led → Vars → Prop} {v : β} {s : Shared} {vs : List β} {s' : Shared} (x : Done w G L s (consQ QL v) vs s') : Done w G L s QL (v :: vs) s' :=
  let ⟨h', tk', e, P', N', m', S, q⟩ := x; ⟨h', tk', e, P', N', m', S, q⟩
theorem W.mono {Q' : α → Led → Led → Vars → Prop} {t : Sem α} (x : W w G L d t P N m Q) (k : ∀ a P' N' m', Q a P' N' m' → Q' a P' N' m') : W w G L d t P N m Q' :=
  W.mk fun A s r S => wpAny_mono (x.run A s r S) (fun _ _ y => y.mono (k _)) fun _ _ z => z
theorem W_pure {a : α} (q : Q a P N m) : W w G L d (pure a) P N m Q := W.mk fun _ s _ S => wpAny_pure (Done.here (tk := s.toks) S q)
theorem W_bind {t : Sem β} {f : β → Sem α} (x : W w G L d t P N m (fun b P' N' m' => W w G L d (f b) P' N' m' Q)) : W w G L d (t >>= f) P N m Q :=
  W.mk fun A _ r S => wpAny_bind (x.go r S fun b h' tk P' N' m' S' q => wpAny_mono (q.run A _ r S') (fun _ _ y => y.from) fun _ _ z => z)
theorem W_holding {vs : List Value} {t : Sem α} (x : W w G L d t P N m Q) : W w G L d (holding vs t) P N m Q := W.mk fun A s r S => wpAny_holding (x.run A s r S)
theorem W_standAt {p : Pos} {Q : Unit → Led → Led → Vars → Prop} (q : Q () P N m) : W w G L d (standAt p) P N m Q := W.mk fun _ s _ S => wpAny_standAt (Done.here (tk := s.toks) S q)
theorem W_point {Q : Unit → Led → Led → Vars → Prop} (q : Q () P N m) : W w G L d point P N m Q := W.mk fun _ s _ S => wpAny_point (Done.here (tk := s.toks) S q)
theorem W_operate {vs : List Value} {t : Sem Value} {Q : Value → Led → Led → Vars → Prop} (x : W w G L d t P N m Q) : W w G L d (operate vs t) P N m Q := W.mk fun A s r S => wpAny_operate' (x.run A s r S)
/-- weaken the start -/
theorem W.st {P' N' : Led} {m' : Vars} {t : Sem α} (x : W w G L d t P' N' m' Q) (k : ∀ h, St w G L P N m h → St w G L P' N' m' h) : W w G L d t P N m Q := W.mk fun A s r S => x.run A s r (k _ S)
/-- take out a fact of the heap -/
theorem W.fact {t : Sem α} {F : Prop} (k : ∀ h, St w G L P N m h → F) (x : F → W w G L d t P N m Q) : W w G L d t P N m Q := W.mk fun A s r S => (x (k _ S)).run A s r S
end
end Nt
end
section
open PySem PySem.W PyProof.Rows PySem.Calls
set_option maxRecDepth 100000
set_option autoImplicit false
set_option linter.unusedVariables false
namespace Nt
section
variable {α β : Type} {w : World} {G : Heap} {L : Addr} {d : Nat} {P N : Led} {m : Vars} {env : Env}
  {Q : Value → Led → Led → Vars → Prop} {QB : Bool → Led → Led → Vars → Prop} {QF : Flow → Led → Led → Vars → Prop} {QU : Unit → Led → Led → Vars → Prop} {QL : List Value → Led → Led → Vars → Prop}
theorem W.letE {b : List Stmt} {e : Env} {Q : Flow → Led → Led → Vars → Prop} (x : let e' := e; let Q' := Q; W w G L d (execs b e') P N m Q') : W w G L d (execs b e) P N m Q := x
theorem W_loadLocal {x : Str} {v : Value} (hv : lk m x = some v) (q : Q v P N m) (hk : env.scope.kind = .function) (hl : env.kindOf x = some .local) (hL : env.locals = L) : W w G L d (loadName env x) P N m Q :=
  W.mk fun _ s _ S => wpAny_loadName_local hk hl (by rw [hL]; exact S.ns) hv (Done.here (tk := s.toks) S q)
theorem W_local {x : Str} {pos : Pos} {v : Value} (hv : lk m x = some v) (q : Q v P N m) (hk : env.scope.kind = .function := by rfl) (hl : env.kindOf x = some .local := by rfl) (hL : env.locals = L := by rfl)
    (hd : (x == ("__debug__" : Str)) = false := by decide) : W w G L d (eval (.Name x pos) env) P N m Q :=
  W.mk fun _ s r S => wpAny_Name ((W_loadLocal hv q hk hl hL).run _ s r S) hd
noncomputable def cellp (v : Option Value) : OP := fun o => o.data = .cell v
theorem W_loadCell {x : Str} {c : Addr} {v : Value} (hc : env.cells.lookup x = some c) (hv : Rd G P N c (cellp (some v))) (q : Q v P N m) (hk : env.scope.kind = .function) (hl : env.kindOf x = some .cell ∨ env.kindOf x = some .free)
    (hn : (x == ("__classdict__" : Str)) = false) : W w G L d (loadName env x) P N m Q :=
  W.mk fun _ s _ S => hl.elim (fun hl => wpAny_loadName_cell hk hl hc (S.rd hv) (Done.here (tk := s.toks) S q)) fun hl => wpAny_loadName_free hk hl hc (S.rd hv) (Done.here (tk := s.toks) S q) hn
theorem W_cell {x : Str} {pos : Pos} {c : Addr} {v : Value} (hc : env.cells.lookup x = some c) (hv : Rd G P N c (cellp (some v))) (q : Q v P N m) (hk : env.scope.kind = .function := by rfl)
    (hl : env.kindOf x = some .cell ∨ env.kindOf x = some .free := by first | exact .inl rfl | exact .inr rfl)
    (hn : (x == ("__classdict__" : Str)) = false := by decide) (hd : (x == ("__debug__" : Str)) = false := by decide) : W w G L d (eval (.Name x pos) env) P N m Q :=
  W.mk fun _ s r S => wpAny_Name ((W_loadCell hc hv q hk hl hn).run _ s r S) hd
theorem mg_of' {h : Heap} (B : Base w h) {x : Str} {v : Value} (e : nsIn (KK w) mainGlobals x = some (some v)) : ∃ mg, h.Ns mainGlobals mg ∧ mg x = some v :=
  let ⟨mg, _, a, _, _⟩ := B.ns; ⟨mg, a, mg_of B.inK a e⟩
theorem W_global {x : Str} {pos : Pos} {v : Value} (e : nsIn (KK w) mainGlobals x = some (some v)) (q : Q v P N m) (hk : env.scope.kind = .function := by rfl) (hx : env.kindOf x = some .globalImplicit := by rfl)
    (hg : env.globals = mainGlobals := by rfl) (hd : (x == ("__debug__" : Str)) = false := by decide) : W w G L d (eval (.Name x pos) env) P N m Q :=
  W.mk fun _ s _ S => by
    obtain ⟨mg, a, b⟩ := mg_of' S.base' e
    exact Name_function_global hk hx (loadGlobal_global (mg := mg) (by rw [hg]; exact a) b (Done.here (tk := s.toks) S q)) hd
theorem W_builtin {x : Str} {pos : Pos} {v : Value} (e : nsIn (KK w) mainGlobals x = some none) (hv : bootBuiltins x = some v) (q : Q v P N m) (hk : env.scope.kind = .function := by rfl) (hx : env.kindOf x = some .globalImplicit := by rfl)
    (hg : env.globals = mainGlobals := by rfl) (hb : env.builtins = builtinsNs := by rfl) (hd : (x == ("__debug__" : Str)) = false := by decide) (hn : x ≠ "__name__" := by decide) : W w G L d (eval (.Name x pos) env) P N m Q :=
  W.mk fun _ s _ S => by
    obtain ⟨mg, mb, a, b, c⟩ := S.base'.ns
    exact Name_function_global hk hx (loadGlobal_builtin (mg := mg) (mb := mb) (by rw [hg]; exact a) (ns_none_of S.base'.inK a e) (by rw [hb]; exact b) (by rw [c x hn]; exact hv) (Done.here (tk := s.toks) S q)) hd
theorem W_store {x : Str} {v : Value} (q : QU () P N (stv m x v)) (hk : env.scope.kind = .function := by rfl) (hl : env.kindOf x = some .local := by rfl) (hL : env.locals = L := by rfl) : W w G L d (storeName env x v) P N m QU :=
  W.mk fun _ s _ S => by
    subst hL
    exact wpAny_storeName_local hl S.ns (fun h' hn hs => Done.here (S.set hn hs) q) (by rw [hk]; rfl)
theorem W_storeCell {x : Str} {v : Value} {c : Addr} {v₀ : Option Value} {N' : Led} (hc : env.cells.lookup x = some c) (u : Upd c (cellp v₀) (cellp (some v)) N N') (q : QU () P N' m) (hk : env.scope.kind = .function := by rfl)
    (hl : env.kindOf x = some .cell := by rfl) : W w G L d (storeName env x v) P N m QU :=
  W.mk fun _ s _ S => wpAny_storeName_cell hk hl hc (S.nw _ u.mem).1 fun h' hn hs => Done.here (tk := s.toks) (S.upd u (fun b o hb e => (hs.2 b hb).trans e) hn) q
theorem W_bindName {x : Str} {v : Value} (q : W w G L d (storeName env x v) P N m QU) : W w G L d (bindName env x v) P N m QU := by
  unfold bindName
  refine W_bind (W_holding (W_point ?_))
  exact W_bind (q.mono fun _ _ _ _ y => W_point (by cases ‹Unit›; exact y))
theorem W_assignName {x : Str} {v : Value} {pos : Pos} (q : W w G L d (storeName env x v) P N m QU) : W w G L d (assign (.Name x pos) env v) P N m QU := by
  show W w G L d (do standAt pos; bindName env x v) P N m QU
  exact W_bind (W_standAt (W_bindName q))
theorem W_int {i : Int} {k : Nat} {pos : Pos} (q : ∀ t, Q (.int i t) P N m) : W w G L d (eval (.Constant (.int i) k pos) env) P N m Q :=
  W.mk fun _ s _ S => wpAny_Constant_int (Done.here S (q _))
theorem W_str {x : Str} {k : Nat} {pos : Pos} (q : ∀ t, Q (.str x t) P N m) : W w G L d (eval (.Constant (.str x) k pos) env) P N m Q :=
  W.mk fun _ s _ S => wpAny_Constant_str (Done.here S (q _))
theorem W_boolC {b : Bool} {k : Nat} {pos : Pos} (q : Q (.bool b) P N m) : W w G L d (eval (.Constant (.bool b) k pos) env) P N m Q :=
  W.mk fun _ s _ S => wpAny_Constant_bool (Done.here (tk := s.toks) S q)
theorem W_none {k : Nat} {pos : Pos} (q : Q .none P N m) : W w G L d (eval (.Constant .none k pos) env) P N m Q :=
  W.mk fun _ s _ S => wpAny_Constant_none (Done.here (tk := s.toks) S q)
theorem W_BinOp {l r : Expr} {op : Operator} {pos : Pos} (x : W w G L d (eval l env) P N m (Kt2 w G L d (eval r env) (binaryOp op) Q)) :
    W w G L d (eval (.BinOp l op r pos) env) P N m Q := by
  rw [arm_eval_BinOp]
  exact W_bind (x.mono fun _ _ _ _ y => W_bind (W_holding (W.mono y fun _ _ _ _ z => W_bind (W_standAt (W_operate z)))))
theorem W_Compare1 {l r : Expr} {op : CmpOp} {pos : Pos} (x : W w G L d (eval l env) P N m (Kt2 w G L d (eval r env) (compareOp op) Q))
    (hm : behindInMarks op r = false := by with_unfolding_all rfl) : W w G L d (eval (.Compare l [op] [r] pos) env) P N m Q :=
  W.mk fun A s R S => wpAny_Compare1 (x.go R S fun a h1 t1 P1 N1 m1 S1 y => y.go R S1 fun b h2 t2 P2 N2 m2 S2 z => W.at z R S2) hm
theorem W_isTrueCompare {l r : Expr} {op : CmpOp} {pos : Pos} {whole : Sem Value} (x : W w G L d (eval l env) P N m (Kt2 w G L d (eval r env) (compareOp op) (Kt w G L d truthy QB)))
    (hm : behindInMarks op r = false := by with_unfolding_all rfl) : W w G L d (isTrue (.Compare l [op] [r] pos) env whole) P N m QB :=
  W.mk fun A s R S => wpAny_isTrue_Compare1 (x.go R S fun a h1 t1 P1 N1 m1 S1 y => y.go R S1 fun b h2 t2 P2 N2 m2 S2 z => z.go R S2 fun c h3 t3 P3 N3 m3 S3 u => W.at u R S3) hm
theorem W_truthyBool {b : Bool} (q : QB b P N m) : W w G L d (truthy (.bool b)) P N m QB := W.mk fun _ s _ S => wpAny_truthy_bool (Done.here (tk := s.toks) S q)
theorem W_isTrueAnd {xs : List Expr} {pos : Pos} {whole : Sem Value} (x : W w G L d (allTrue .And xs env) P N m QB) : W w G L d (isTrue (.BoolOp .And xs pos) env whole) P N m QB := W.mk fun A s r S => wpAny_isTrue_BoolOp (x.run A s r S)
theorem W_isTrueOr {xs : List Expr} {pos : Pos} {whole : Sem Value} (x : W w G L d (allTrue .Or xs env) P N m QB) : W w G L d (isTrue (.BoolOp .Or xs pos) env whole) P N m QB := W.mk fun A s r S => wpAny_isTrue_BoolOp (x.run A s r S)
theorem W_andNil (q : QB true P N m) : W w G L d (allTrue .And [] env) P N m QB := W.mk fun _ s _ S => wpAny_allTrue_And_nil (Done.here (tk := s.toks) S q)
theorem W_orNil (q : QB false P N m) : W w G L d (allTrue .Or [] env) P N m QB := W.mk fun _ s _ S => wpAny_allTrue_Or_nil (Done.here (tk := s.toks) S q)
/-- the rest of a row of tests, if the first is c -/
structure Kand (w : World) (G : Heap) (L : Addr) (d : Nat) (t : Sem Bool) (c c' : Bool) (QB : Bool → Led → Led → Vars → Prop) (b : Bool) (P N : Led) (m : Vars) : Prop where
  on : b = c → W w G L d t P N m QB
  off : b = c' → QB c' P N m
theorem W_andCons {x : Expr} {r : List Expr} (k : W w G L d (isTrue x env (eval x env)) P N m (Kand w G L d (allTrue .And r env) true false QB)) : W w G L d (allTrue .And (x :: r) env) P N m QB :=
  W.mk fun A s R S => wpAny_allTrue_And_cons (k.go R S fun b h tk P1 N1 m1 S1 y => by
    cases b with
    | true => exact W.at (y.1 rfl) R S1
    | false => exact Done.here S1 (y.2 rfl))
theorem W_orCons {x : Expr} {r : List Expr} (k : W w G L d (isTrue x env (eval x env)) P N m (Kand w G L d (allTrue .Or r env) false true QB)) : W w G L d (allTrue .Or (x :: r) env) P N m QB :=
  W.mk fun A s R S => wpAny_allTrue_Or_cons (k.go R S fun b h tk P1 N1 m1 S1 y => by
    cases b with
    | false => exact W.at (y.1 rfl) R S1
    | true => exact Done.here S1 (y.2 rfl))
theorem W_isTrueNot {x : Expr} {pos : Pos} {whole : Sem Value} (k : W w G L d (isTrue x env (eval x env)) P N m (notQ QB)) : W w G L d (isTrue (.UnaryOp .Not x pos) env whole) P N m QB := by
  show W w G L d (do return !(← isTrue x env (eval x env))) P N m QB
  exact W_bind (k.mono fun _ _ _ _ y => W_pure y)
theorem W_isTrueName {x : Str} {pos : Pos} (k : W w G L d (eval (.Name x pos) env) P N m (Kt w G L d truthy QB)) : W w G L d (isTrue (.Name x pos) env (eval (.Name x pos) env)) P N m QB := by
  show W w G L d (do let v ← eval (.Name x pos) env; standAt (Expr.pos (.Name x pos)); holding [v] (truthy v)) P N m QB
  exact W_bind (k.mono fun _ _ _ _ y => W_bind (W_standAt (W_holding y)))
theorem W_isTrueCall {f : Expr} {as : List Expr} {ks : List Keyword} {pos : Pos} (k : W w G L d (eval (.Call f as ks pos) env) P N m (Kt w G L d truthy QB)) : W w G L d (isTrue (.Call f as ks pos) env (eval (.Call f as ks pos) env)) P N m QB := by
  show W w G L d (do let v ← eval (.Call f as ks pos) env; standAt (Expr.pos (.Call f as ks pos)); holding [v] (truthy v)) P N m QB
  exact W_bind (k.mono fun _ _ _ _ y => W_bind (W_standAt (W_holding y)))
theorem W_IfExp {t b o : Expr} {pos : Pos} (k : W w G L d (isTrue t env (eval t env)) P N m (Kif w G L d (eval b env) (eval o env) Q)) : W w G L d (eval (.IfExp t b o pos) env) P N m Q :=
  W.mk fun A s R S => wpAny_IfExp (k.go R S fun b h tk P1 N1 m1 S1 y => by
    cases b with
    | true => exact W.at (y.1 rfl) R S1
    | false => exact W.at (y.2 rfl) R S1)
theorem W_argsNil {pos : Pos} (q : QL [] P N m) : W w G L d (spliced (backTo pos (starEach [] env))) P N m QL := W.mk fun _ s _ S => spliced_nil (Done.here (tk := s.toks) S q)
noncomputable def Kargs (w : World) (G : Heap) (L : Addr) (d : Nat) (pos : Pos) (r : List Expr) (env : Env) (QL : List Value → Led → Led → Vars → Prop) : Value → Led → Led → Vars → Prop := fun v P N m => W w G L d (spliced (backTo pos (starEach r env))) P N m (consQ QL v)
theorem W_argsCons {e : Expr} {r : List Expr} {pos : Pos} (x : W w G L d (eval e env) P N m (Kargs w G L d pos r env QL))
    (he : starEach (e :: r) env = (false, eval e env) :: starEach r env := by rfl) : W w G L d (spliced (backTo pos (starEach (e :: r) env))) P N m QL := W.mk fun A s R S => by
  rw [he]
  exact spliced_cons (x.go R S fun v h tk P1 N1 m1 S1 y => wpAny_mono (W.at y R S1) (fun _ _ y => y.cons) fun _ _ z => z)
theorem W_List {es : List Expr} {pos : Pos} (x : W w G L d (spliced (backTo pos (starEach es env))) P N m (Kt w G L d newList Q)) : W w G L d (eval (.List es pos) env) P N m Q := by
  rw [arm_eval_List]; exact W_bind (W_standAt (W_bind x))
theorem W_Tuple {es : List Expr} {k : Nat} {pos : Pos} (x : W w G L d (spliced (backTo pos (starEach es env))) P N m (Kt w G L d newTuple Q)) : W w G L d (eval (.Tuple es k pos) env) P N m Q := by
  rw [arm_eval_Tuple]; exact W_bind (W_standAt (W_bind x))
noncomputable def callW (pos : Pos) (args : List Expr) (env : Env) : Value → Sem Value := fun f => callWith pos f [] (backTo pos (starEach args env)) []
noncomputable def callF (f : Value) (first : List Value) : List Value → Sem Value := fun vs => call f (first ++ vs)
noncomputable def callT (T : String) : List Value → Sem Value := fun vs => call (.type T) vs
theorem W_CallName {x : Str} {p pos : Pos} {args : List Expr} (k : W w G L d (eval (.Name x p) env) P N m (Kt w G L d (callW pos args env) Q)) : W w G L d (eval (.Call (.Name x p) args [] pos) env) P N m Q := by
  show W w G L d (do callWith pos (← eval (.Name x p) env) [] (backTo pos (starEach args env)) (backToKw pos (keywordEach [] env))) P N m Q
  exact W_bind k
theorem W_callWithB {pos : Pos} {id : String} {first : List Value} {e : Expr} {r : List Expr} (x : W w G L d (spliced (backTo pos (starEach (e :: r) env))) P N m (Kt w G L d (callF (.builtin id) first) Q))
    (he : starEach (e :: r) env = (false, eval e env) :: starEach r env := by rfl) (hp : (backTo pos (starEach r env)).any (·.1) = false := by rfl) : W w G L d (callWith pos (.builtin id) first (backTo pos (starEach (e :: r) env)) []) P N m Q := W.mk fun A s R S => by
  have x' := x.run A s R S
  rw [he] at x' ⊢
  refine callWith_builtin (by show (false || (backTo pos (starEach r env)).any (·.1)) = false; rw [hp]; rfl) (evalArgs_plain (wpAny_mono x' (fun vs s' z => ?_) fun _ _ z => z))
  obtain ⟨h', tk, e', P', N', m', S', y⟩ := z
  rw [e']
  exact W.at y R S'
theorem W_callWithT {pos : Pos} {T : String} {e : Expr} {r : List Expr} (x : W w G L d (spliced (backTo pos (starEach (e :: r) env))) P N m (Kt w G L d (callT T) Q))
    (he : starEach (e :: r) env = (false, eval e env) :: starEach r env := by rfl) (hp : (backTo pos (starEach r env)).any (·.1) = false := by rfl) : W w G L d (callWith pos (.type T) [] (backTo pos (starEach (e :: r) env)) []) P N m Q := W.mk fun A s R S => by
  have x' := x.run A s R S
  rw [he] at x' ⊢
  refine PySem.callWith_type (by show (false || (backTo pos (starEach r env)).any (·.1)) = false; rw [hp]; rfl) (evalArgs_plain (wpAny_mono x' (fun vs s' z => ?_) fun _ _ z => z))
  obtain ⟨h', tk, e', P', N', m', S', y⟩ := z
  rw [e']
  exact W.at y R S'
theorem W_callWithF {pos : Pos} {f : Addr} {first : List Value} {e : Expr} {r : List Expr} (hk : keepIn (KK w) (.ref f) = true) (x : W w G L d (spliced (backTo pos (starEach (e :: r) env))) P N m (Kt w G L d (callF (.ref f) first) Q))
    (he : starEach (e :: r) env = (false, eval e env) :: starEach r env := by rfl) (hp : (backTo pos (starEach r env)).any (·.1) = false := by rfl) : W w G L d (callWith pos (.ref f) first (backTo pos (starEach (e :: r) env)) []) P N m Q := W.mk fun A s R S => by
  refine callWith_K (h₀ := s.heap) S.base'.inK hk (wpAny_mono (x.run A s R S) (fun vs s' z => ?_) fun _ _ z => z) he hp
  obtain ⟨h', tk, e', P', N', m', S', y⟩ := z
  rw [e']
  exact ⟨S'.base'.inK, W.at y R S'⟩
theorem W_callWithF0 {pos : Pos} {f : Addr} {first : List Value} (hk : keepIn (KK w) (.ref f) = true) (x : W w G L d (call (.ref f) (first ++ [])) P N m Q) : W w G L d (callWith pos (.ref f) first (backTo pos (starEach [] env)) []) P N m Q := W.mk fun A s R S =>
  callWith_K0 S.base'.inK hk (x.run A s R S)
theorem W_nil (q : QF .next P N m) : W w G L d (execs [] env) P N m QF := W.mk fun _ s _ S => wpAny_execs_nil (Done.here (tk := s.toks) S q)
noncomputable def Seq (w : World) (G : Heap) (L : Addr) (d : Nat) (r : List Stmt) (env : Env) (QF : Flow → Led → Led → Vars → Prop) : Flow → Led → Led → Vars → Prop := fun f P N m => match f with
  | .next => W w G L d (execs r env) P N m QF
  | f => QF f P N m
theorem W_cons {st : Stmt} {r : List Stmt} (x : W w G L d (exec st env) P N m (Seq w G L d r env QF)) : W w G L d (execs (st :: r) env) P N m QF := W.mk fun A s R S =>
  wpAny_execs_cons (x.go R S fun f h' tk P' N' m' S' q => by
    cases f with
    | next => exact W.at q R S'
    | brk => exact Done.here S' q
    | cont => exact Done.here S' q
    | ret v => exact Done.here S' q)
theorem W_AssignName {x : Str} {p pos : Pos} {e : Expr} (k : W w G L d (eval e env) P N m (Kt w G L d (storeName env x) (anyQ QF)))
    (hs : swapsWith e (some (.Name x p)) pos.line env = pure false := by rfl) : W w G L d (exec (.Assign [.Name x p] e pos) env) P N m QF := W.mk fun A s R S =>
  wpAny_Assign_Name (k.go R S fun v h' tk P' N' m' S' q => q.go R S' fun u h2 t2 P2 N2 m2 S2 y => Done.here S2 y) hs
theorem W_AugName {x : Str} {p pos : Pos} {op : Operator} {e : Expr} (k : W w G L d (loadName env x) P N m (Kt2 w G L d (eval e env) (inplaceOp op) (Kt w G L d (storeName env x) (anyQ QF)))) :
    W w G L d (exec (.AugAssign (.Name x p) op e pos) env) P N m QF := W.mk fun A s R S =>
  wpAny_AugAssign_Name (k.go R S fun a h1 t1 P1 N1 m1 S1 y => y.go R S1 fun b h2 t2 P2 N2 m2 S2 z => z.go R S2 fun v h3 t3 P3 N3 m3 S3 u => u.go R S3 fun _ h4 t4 P4 N4 m4 S4 q => Done.here S4 q)
theorem W_If {t : Expr} {b o : List Stmt} {pos : Pos} (k : W w G L d (isTrue t env (eval t env)) P N m (Kif w G L d (execs b env) (execs o env) QF)) : W w G L d (exec (.If t b o pos) env) P N m QF :=
  W.mk fun A s R S => wpAny_If (k.go R S fun b h tk P1 N1 m1 S1 y => by
    cases b with
    | true => exact W.at (y.1 rfl) R S1
    | false => exact W.at (y.2 rfl) R S1)
theorem W_Return {e : Expr} {pos : Pos} (k : W w G L d (eval e env) P N m (retQ QF)) : W w G L d (exec (.Return (some e) pos) env) P N m QF := W.mk fun A s R S =>
  wpAny_Return_some (k.go R S fun v h' tk P' N' m' S' q => Done.here S' q)
theorem W_Expr {e : Expr} {pos : Pos} (k : W w G L d (eval e env) P N m (anyQ QF)) (hi : interactive env = false := by rfl) (hs : swapsWith e none pos.line env = pure false := by rfl) : W w G L d (exec (.Expr e pos) env) P N m QF := W.mk fun A s R S =>
  wpAny_Expr_any (k.go R S fun v h' tk P' N' m' S' q => Done.here S' q) hi hs
/-- what a turn of a while hands on -/
noncomputable def WTurn (Inv : Led → Led → Vars → Prop) (μ : Led → Led → Vars → Nat → Prop) (n : Nat) (QF : Flow → Led → Led → Vars → Prop) : Flow → Led → Led → Vars → Prop := fun f P' N' m' => match f with
  | .next | .cont => Inv P' N' m' ∧ ∃ k, k < n ∧ μ P' N' m' k
  | .brk => QF .next P' N' m'
  | .ret v => QF (.ret v) P' N' m'
structure Kwhile (w : World) (G : Heap) (L : Addr) (d : Nat) (b : Sem Flow) (QT QF : Flow → Led → Led → Vars → Prop) (c : Bool) (P N : Led) (m : Vars) : Prop where
  t : c = true → W w G L d b P N m QT
  e : c = false → QF .next P N m
theorem W_While {t : Expr} {b : List Stmt} {pos : Pos} (Inv : Led → Led → Vars → Prop) (μ : Led → Led → Vars → Nat → Prop)
    (start : Inv P N m) (hμ : ∀ P N m, Inv P N m → ∃ n, μ P N m n)
    (turn : ∀ P N m n, Inv P N m → μ P N m n → W w G L d (isTrue t env (eval t env)) P N m (Kwhile w G L d (execs b env) (WTurn Inv μ n QF) QF)) : W w G L d (exec (.While t b [] pos) env) P N m QF := by
  refine W.mk fun A s R S => ?_
  refine wpAny_While ?_
  let I : Nat → Shared → Prop := fun n s' => Done w G L s (fun (_ : Unit) P N m => Inv P N m ∧ μ P N m n) () s'
  obtain ⟨n₀, h₀⟩ := hμ _ _ _ start
  refine codeAny_loop' (c := .whileLoop t b [] env) rfl I (fun n s' hI => ?_) n₀ ⟨s.heap, s.toks, rfl, P, N, m, S, start, h₀⟩
  obtain ⟨h', tk, rfl, P', N', m', S', inv, hn⟩ := hI
  have R' := R
  show wpAny _ A ((whileTurn t b [] env).onRaise (fun x => do noteFrame x env; theTreesLotGoes x)) _ _ _
  refine wpAny_noted ?_
  unfold whileTurn
  refine wpAny_bind (wpAny_mono ((turn P' N' m' n inv hn).run A _ R' S') (fun c s₁ z => ?_) fun _ _ z => z.elim)
  obtain ⟨h1, t1, rfl, P1, N1, m1, S1, y1, y2⟩ := z
  cases c with
  | false =>
    simp only [Bool.false_eq_true, if_false]
    exact wpAny_bind (wpAny_execs_nil (wpAny_pure ⟨h1, t1, rfl, P1, N1, m1, S1, y2 rfl⟩))
  | true =>
    simp only [if_true]
    refine wpAny_bind (wpAny_mono ((y1 rfl).run A _ R' S1) (fun f s₂ z => ?_) fun _ _ z => z.elim)
    obtain ⟨h2, t2, rfl, P2, N2, m2, S2, y⟩ := z
    cases f with
    | next => exact wpAny_pure (.inl ⟨rfl, y.2.choose, y.2.choose_spec.1, h2, t2, rfl, P2, N2, m2, S2, y.1, y.2.choose_spec.2⟩)
    | cont => exact wpAny_pure (.inl ⟨rfl, y.2.choose, y.2.choose_spec.1, h2, t2, rfl, P2, N2, m2, S2, y.1, y.2.choose_spec.2⟩)
    | brk => exact wpAny_pure ⟨h2, t2, rfl, P2, N2, m2, S2, y⟩
    | ret v => exact wpAny_pure ⟨h2, t2, rfl, P2, N2, m2, S2, y⟩
end
end Nt
end
section
open PySem PySem.W PyProof.Rows PySem.Calls
set_option maxRecDepth 100000
set_option autoImplicit false
set_option linter.unusedVariables false
namespace Nt
/-- the ledger behind a call: what is new, then what it was handed -/
noncomputable def Ends (N0 N' : Led) : Prop := True
theorem Ends.nil {N0 N' : Led} : Ends N0 N' := trivial
theorem Ends.same {N0 N' : Led} (h : N'.map (·.1) = N0.map (·.1)) : Ends N0 N' := trivial
/-- the contract of a call: N0 is what it may change, Pre speaks of what it may read beside, Post of what it hands back -/
inductive FnEnd (s : Shared) (N0 : Led) (Post : Heap → Value → Led → Heap → Prop) (v : Value) (s' : Shared) : Prop
  | mk (h' : Heap) (tk : Nat) (N' : Led) (e : s' = { s with heap := h', toks := tk }) (k : ∀ b o, (hideAll s.heap (N0.map (·.1))).get? b = some o → h'.get? b = some o)
      (n : ∀ p ∈ N', Has h' p.1 p.2) (f : Ends N0 N' ∧ (N'.map (·.1)).Nodup ∧ ∀ p ∈ N', (hideAll s.heap (N0.map (·.1))).get? p.1 = none) (q : Post (hideAll s.heap (N0.map (·.1))) v N' h')
noncomputable def FnRes (s : Shared) (N0 : Led) (Post : Heap → Value → Led → Heap → Prop) (r : Result) (s' : Shared) : Prop := match r with
  | .ok (.ret v) => FnEnd s N0 Post v s'
  | _ => False
noncomputable def Fn (w : World) (d : Nat) (f : Value) (vs : List Value) (N0 : Led) (Pre : Heap → Prop) (Post : Heap → Value → Led → Heap → Prop) : Prop :=
  ∀ (A : Around) (s : Shared), Room d A → Base w (hideAll s.heap (N0.map (·.1))) → Pre (hideAll s.heap (N0.map (·.1))) → (∀ p ∈ N0, Has s.heap p.1 p.2) → (N0.map (·.1)).Nodup →
    codeAny (model prg w) A (.call f ⟨vs, []⟩) (FnRes s N0 Post) s
section
variable {α : Type} {w : World} {G : Heap} {L : Addr} {d : Nat} {P N : Led} {m : Vars} {Q : Value → Led → Led → Vars → Prop}
theorem Fn.le {d d' : Nat} {f : Value} {vs : List Value} {N0 : Led} {Pre : Heap → Prop} {Post : Heap → Value → Led → Heap → Prop} (C : Fn w d' f vs N0 Pre Post) (h : d' ≤ d) : Fn w d f vs N0 Pre Post :=
  fun A s r => C A s (r.le h)
theorem Fn.mono {d : Nat} {f : Value} {vs : List Value} {N0 : Led} {Pre Pre' : Heap → Prop} {Post Post' : Heap → Value → Led → Heap → Prop} (C : Fn w d f vs N0 Pre Post) (hp : ∀ G, Pre' G → Pre G) (hq : ∀ G v N' h', Pre' G → Post G v N' h' → Post' G v N' h') : Fn w d f vs N0 Pre' Post' :=
  fun A s r b p x n => codeAny_mono (C A s r b (hp _ p) x n) fun r s' z => by
    rcases r with e | (v | _ | _ | v)
    all_goals try exact z.elim
    obtain ⟨h', tk, N', e, k1, k2, k3, k4⟩ := z
    exact ⟨h', tk, N', e, k1, k2, k3, hq _ _ _ _ p k4⟩
theorem St.hide {N0 : Led} {h : Heap} (S : St w G L P (N0 ++ N) m h) : St w G L P N m (hideAll h (N0.map (·.1))) := by
  have nd := S.nd
  rw [List.map_append] at nd
  have nd' := List.nodup_append.mp nd
  have off : ∀ a, a ∈ N0.map (·.1) → G.get? a = none ∧ a ≠ L := fun a ha => by
    obtain ⟨p, hp, rfl⟩ := List.mem_map.mp ha
    exact ⟨(S.nw p (List.mem_append_left _ hp)).2.2, (S.nw p (List.mem_append_left _ hp)).2.1⟩
  refine ⟨S.base, fun b o e => hideAll_get _ (S.keep b o e) (fun q => by rw [(off b q).1] at e; exact nomatch e), ?_, S.out, fun p hp => ⟨?_, (S.nw p (List.mem_append_right _ hp)).2⟩, nd'.2.1, fun p hp => ⟨?_, (S.ps p hp).2.1, fun q => (S.ps p hp).2.2 (by rw [List.map_append]; exact List.mem_append_right _ q)⟩⟩
  · obtain ⟨o, es, ep, ho, r⟩ := S.ns
    exact ⟨o, es, ep, hideAll_get _ ho fun q => (off _ q).2 rfl, r⟩
  · obtain ⟨o, ho, r⟩ := (S.nw p (List.mem_append_right _ hp)).1
    exact ⟨o, hideAll_get _ ho fun q => nd'.2.2 _ q _ (List.mem_map_of_mem hp) rfl, r⟩
  · obtain ⟨o, ho, r⟩ := (S.ps p hp).1
    exact ⟨o, hideAll_get _ ho fun q => (S.ps p hp).2.2 (by rw [List.map_append]; exact List.mem_append_left _ q), r⟩
theorem St.perm {N' : Led} {h : Heap} (S : St w G L P N m h) (e : N.Perm N') : St w G L P N' m h :=
  ⟨S.base, S.keep, S.ns, S.out, fun p hp => S.nw p (e.mem_iff.mpr hp), (e.map _).nodup_iff.mp S.nd, fun p hp => ⟨(S.ps p hp).1, (S.ps p hp).2.1, fun q => (S.ps p hp).2.2 ((e.map _).mem_iff.mpr q)⟩⟩
/-- the ledger behind a call -/
theorem St.unhide {N0 N' : Led} {h h' : Heap} (S : St w G L P (N0 ++ N) m h) (k : ∀ b o, (hideAll h (N0.map (·.1))).get? b = some o → h'.get? b = some o) (hn : ∀ p ∈ N', Has h' p.1 p.2)
    (e : Ends N0 N' ∧ (N'.map (·.1)).Nodup ∧ ∀ p ∈ N', (hideAll h (N0.map (·.1))).get? p.1 = none) : St w G L P (N' ++ N) m h' := by
  obtain ⟨-, nd', out⟩ := e
  have S1 := S.hide
  have S' := S1.grow k
  have fr : ∀ p ∈ N', p.1 ≠ L ∧ p.1 ∉ N.map (·.1) ∧ p.1 ∉ P.map (·.1) ∧ G.get? p.1 = none := fun p hp => S1.fresh (out p hp)
  refine ⟨S'.base, S'.keep, S'.ns, S'.out, fun p hp => ?_, ?_, fun p hp => ⟨(S'.ps p hp).1, (S'.ps p hp).2.1, fun q => ?_⟩⟩
  · rcases List.mem_append.mp hp with hp | hp
    · exact ⟨hn p hp, (fr p hp).1, (fr p hp).2.2.2⟩
    · exact S'.nw p hp
  · rw [List.map_append]
    refine List.nodup_append.mpr ⟨nd', S1.nd, fun a ha b hb q => ?_⟩
    obtain ⟨p, hp, rfl⟩ := List.mem_map.mp ha
    exact (fr p hp).2.1 (q ▸ hb)
  · rw [List.map_append] at q
    rcases List.mem_append.mp q with q | q
    · obtain ⟨p', hp', e⟩ := List.mem_map.mp q
      exact (fr p' hp').2.2.1 (e ▸ List.mem_map_of_mem hp)
    · exact (S'.ps p hp).2.2 q
theorem W_call {f : Value} {vs : List Value} {N0 : Led} {Pre : Heap → Prop} {Post : Heap → Value → Led → Heap → Prop} (C : Fn w d f vs N0 Pre Post) (hpre : ∀ g, St w G L P N m g → Pre g)
    (k : ∀ v N' g h', St w G L P N m g → (∀ b o, g.get? b = some o → h'.get? b = some o) → St w G L P (N' ++ N) m h' → Ends N0 N' → Post g v N' h' → At w G L h' (Q v)) :
    W w G L d (call f vs) P (N0 ++ N) m Q := W.mk fun A s r S => by
  have S1 := S.hide
  refine wpAny_call (codeAny_mono (C A s r S1.base' (hpre _ S1) (fun p hp => (S.nw p (List.mem_append_left _ hp)).1) ((List.nodup_append.mp (by have := S.nd; rwa [List.map_append] at this)).1)) fun r s' z => ?_)
  rcases r with e | (v | _ | _ | v)
  all_goals try exact z.elim
  obtain ⟨h', tk, N', e, k1, k2, k3, k4⟩ := z
  obtain ⟨P₁, N₁, m₁, S₁, q⟩ := k v N' _ h' S1 k1 (S.unhide k1 k2 k3) k3.1 k4
  exact ⟨h', tk, e, P₁, N₁, m₁, S₁, q⟩
/-- a call that changes nothing that was there -/
theorem W_call0 {f : Value} {vs : List Value} {Pre : Heap → Prop} {Post : Heap → Value → Led → Heap → Prop} (C : Fn w d f vs [] Pre Post) (hpre : ∀ g, St w G L P N m g → Pre g)
    (k : ∀ v F g h', St w G L P N m g → (∀ b o, g.get? b = some o → h'.get? b = some o) → St w G L P N m h' → Post g v F h' → At w G L h' (Q v)) :
    W w G L d (call f vs) P N m Q :=
  W_call (N0 := []) C hpre fun v N' g h' a b c e p => k v N' g h' a b (c.subN (List.sublist_append_right ..)) p
/-- the same, where nothing is asked of the heap behind -/
theorem W_callE {f : Value} {vs : List Value} {N0 : Led} {Pre : Heap → Prop} {Post : Heap → Value → Led → Heap → Prop} (C : Fn w d f vs N0 Pre Post) (hpre : ∀ g, (∀ b o, G.get? b = some o → g.get? b = some o) → Pre g)
    (k : ∀ v N' g h', Post g v N' h' → Q v P (N' ++ N) m) : W w G L d (call f vs) P (N0 ++ N) m Q :=
  W_call C (fun g S => hpre g S.keep) fun v N' g h' _ _ S2 _ p => ⟨_, _, _, S2, k v N' g h' p⟩
theorem W_call0E {f : Value} {vs : List Value} {Pre : Heap → Prop} {Post : Heap → Value → Led → Heap → Prop} (C : Fn w d f vs [] Pre Post) (hpre : ∀ g, (∀ b o, G.get? b = some o → g.get? b = some o) → Pre g)
    (k : ∀ v F g h', Post g v F h' → Q v P N m) : W w G L d (call f vs) P N m Q :=
  W_call0 C (fun g S => hpre g S.keep) fun v F g h' _ _ S2 p => ⟨_, _, _, S2, k v F g h' p⟩
theorem W_callES {f : Value} {vs : List Value} {N0 : Led} {Pre : Heap → Prop} {Post : Heap → Value → Led → Heap → Prop} (C : Fn w d f vs N0 Pre Post) (hpre : ∀ g, St w G L P N m g → Pre g)
    (k : ∀ v N' g h', Post g v N' h' → Q v P (N' ++ N) m) : W w G L d (call f vs) P (N0 ++ N) m Q :=
  W_call C hpre fun v N' g h' _ _ S2 _ p => ⟨_, _, _, S2, k v N' g h' p⟩
theorem W_call0ES {f : Value} {vs : List Value} {Pre : Heap → Prop} {Post : Heap → Value → Led → Heap → Prop} (C : Fn w d f vs [] Pre Post) (hpre : ∀ g, St w G L P N m g → Pre g)
    (k : ∀ v F g h', Post g v F h' → Q v P N m) : W w G L d (call f vs) P N m Q :=
  W_call0 C hpre fun v F g h' _ _ S2 p => ⟨_, _, _, S2, k v F g h' p⟩
noncomputable def vars0 (names : List Str) (binds : List (Str × Value)) : Vars := names.map fun n => (n, binds.reverse.lookup n)
theorem lk_map (f : Str → Option Value) (x : Str) : ∀ names : List Str, lk (names.map fun n => (n, f n)) x = if x ∈ names then f x else none
  | [] => rfl
  | y :: r => by
    have ih := lk_map f x r
    simp only [List.map_cons, lk]
    by_cases h : y = x
    · subst h; rw [if_pos rfl, if_pos (List.mem_cons_self ..)]
    · rw [if_neg h, ih]
      by_cases hr : x ∈ r
      · rw [if_pos hr, if_pos (List.mem_cons_of_mem _ hr)]
      · rw [if_neg hr, if_neg (fun q => (List.mem_cons.mp q).elim (fun e => h e.symm) hr)]
theorem lookup_none {binds : List (Str × Value)} {x : Str} (h : x ∉ binds.map (·.1)) : binds.lookup x = none := by
  induction binds with
  | nil => rfl
  | cons b r ih =>
    rw [List.map_cons] at h
    have h1 : (x == b.1) = false := by
      cases q : x == b.1 with
      | false => rfl
      | true => exact absurd (eq_of_beq q ▸ List.mem_cons_self ..) h
    rw [List.lookup_cons, h1]
    exact ih fun q => h (List.mem_cons_of_mem _ q)
theorem lk_vars0 {names : List Str} {binds : List (Str × Value)} (h : (binds.all fun b => names.contains b.1) = true) : lk (vars0 names binds) = fun x => binds.reverse.lookup x := by
  funext x
  unfold vars0
  rw [lk_map]
  by_cases hx : x ∈ names
  · rw [if_pos hx]
  · rw [if_neg hx, lookup_none]
    intro q
    obtain ⟨b, hb, rfl⟩ := List.mem_map.mp q
    exact hx (by have := List.all_eq_true.mp h b (List.mem_reverse.mp hb); simpa using this)
noncomputable abbrev retv : Flow → Value := fun f => match f with | .ret v => v | _ => .none
/-- what a body owes where it ends -/
inductive BodyEnd (w : World) (G : Heap) (L : Addr) (N0 : Led) (m : Vars) (h : Heap) (Post : Led → Prop) : Prop
  | mk (N' : Led) (st : St w G L [] N' m h) (e : Ends N0 N') (q : Post N')
noncomputable def BodyPost (w : World) (G : Heap) (L : Addr) (N0 : Led) (Post : Heap → Value → Led → Heap → Prop) : Flow → Led → Led → Vars → Prop := fun fl P N m => ∀ h, St w G L P N m h → BodyEnd w G L N0 m h fun N' => Post G (retv fl) N' h
/-- the body of a def without cells, walked -/
theorem Fn.of_body {f : Addr} {oc : Value} {od : Option Addr} {osl : Array (Option Value)} {name qual : Str} {params : Arguments} {body : List Stmt} {scope : Scope} {dV kV doc pm cdv ct : Value} {an : Option Addr}
    {vs : List Value} {binds : List (Str × Value)} {names : List Str} {m₀ : Vars} {N0 : Led} {Pre : Heap → Prop} {Post : Heap → Value → Led → Heap → Prop}
    (ho : (KK w).lookup f = some ⟨oc, od, .func (fnOf name qual params body scope dV kV doc pm an cdv ct), osl⟩) (hcd : codeIn (KK w) cdv qual = true)
    (hbind : ∀ s : Shared, (KK w).In s.heap → BindsTo s (fnOf name qual params body scope dV kV doc pm an cdv ct) ⟨vs, []⟩ binds) (hloc : (binds.all fun b => scope.names.lookup b.1 == some .local) = true)
    (hn : (binds.all fun b => names.contains b.1) = true) (hm : m₀ = vars0 names binds)
    (hb : ∀ G L, Base w G → Pre G → W w G L d (execs body (envOf qual scope L f cdv)) [] N0 m₀ (BodyPost w G L N0 Post))
    (hco : scope.isCoroutine = false := by rfl) (hgen : scope.isGenerator = false := by rfl) (hk : scope.kind = .function := by rfl) (hcell : ∀ x ∈ scope.names, x.2 ≠ .cell := by decide) :
    Fn w (d + 1) (.ref f) vs N0 Pre Post := by
  intro A s R B hpre hN0 hnd
  have hX : (KK w).In s.heap := B.inK.keeps fun b o e => of_hideAll _ e
  have hl : s.heap.NoLimit := B.nolimit.keeps fun b o e => of_hideAll _ e
  refine codeAny_call_def (fd := fnOf name qual params body scope dV kV doc pm an cdv ct) (body := body) (binds := binds) R.lt (hX _ _ ho) rfl hl (codeRec_of hX hcd) rfl (hbind _ hX) hcell
    (fun x hx => by have := List.all_eq_true.mp hloc x hx; simpa using this) (fun h₀ hns hk₀ => ?_) hco hgen hk
  have hsz : s.heap.get? s.heap.objs.size = none := by
    cases q : s.heap.get? s.heap.objs.size with
    | none => rfl
    | some o => exact absurd (Heap.lt_size q) (Nat.lt_irrefl _)
  have S₀ : St w (hideAll s.heap (N0.map (·.1))) s.heap.objs.size [] N0 m₀ h₀ := by
    refine ⟨B, fun b o e => hk₀ b o (of_hideAll _ e), by rw [hm, lk_vars0 hn]; exact hns, ?_, fun p hp => ⟨(hN0 p hp).keeps hk₀, ?_, hideAll_none _ (List.mem_map_of_mem hp)⟩, hnd, fun _ hp => nomatch hp⟩
    · cases q : (hideAll s.heap (N0.map (·.1))).get? s.heap.objs.size with
      | none => rfl
      | some o => have := of_hideAll _ q; rw [hsz] at this; cases this
    · obtain ⟨o, ho', _⟩ := hN0 p hp
      exact Nat.ne_of_lt (Heap.lt_size ho')
  show wpAny _ (A.deeper (envOf qual scope s.heap.objs.size f cdv)) (execs body (envOf qual scope s.heap.objs.size f cdv)) _ _ _
  refine wpAny_mono ((hb _ s.heap.objs.size B hpre).run (A.deeper _) { s with heap := h₀, toks := s.toks + binds.length } (R.deeper _) S₀) (fun fl s' z => ?_) fun _ _ z => z.elim
  obtain ⟨h', tk, rfl, P', N', m', S', y⟩ := z
  obtain ⟨N₁, S₁, e₁, y⟩ := y h' S'
  exact ⟨h', tk, N₁, rfl, S₁.keep, fun p hp => (S₁.nw p hp).1, ⟨e₁, S₁.nd, fun p hp => (S₁.nw p hp).2.2⟩, y⟩
/-- the cells that a frame starts with -/
noncomputable def cells0 (cs : List (Str × Addr)) (cm : Str → Option Value) : Led := cs.map fun c => (c.2, fun o => o.data = .cell (cm c.1))
/-- the body of a def with cells, walked -/
theorem Fn.of_bodyC {f : Addr} {oc : Value} {od : Option Addr} {osl : Array (Option Value)} {name qual : Str} {params : Arguments} {body : List Stmt} {scope : Scope} {dV kV doc pm cdv ct : Value} {an : Option Addr}
    {vs : List Value} {binds : List (Str × Value)} {names : List Str} {m₀ : Vars} {N0 : Led} {Pre : Heap → Prop} {Post : Heap → Value → Led → Heap → Prop} {Nc : Addr → Led}
    (ho : (KK w).lookup f = some ⟨oc, od, .func (fnOf name qual params body scope dV kV doc pm an cdv ct), osl⟩) (hcd : codeIn (KK w) cdv qual = true)
    (hbind : bindArgs (fnOf name qual params body scope dV kV doc pm an cdv ct) ⟨vs, []⟩ = pure binds)
    (hkind : (binds.all fun b => scope.names.lookup b.1 == some .local || scope.names.lookup b.1 == some .cell) = true) (hnd : ((cellsFrom 0 scope.names []).map (·.1)).Nodup)
    (hm : ∀ L, lk m₀ = bindL (envOfC qual scope L f cdv).kindOf binds fun _ => none) (hc : ∀ L, Nc L = cells0 (cellsFrom (L + 1) scope.names []) (bindC (envOfC qual scope L f cdv).kindOf binds fun _ => none))
    (hb : ∀ G L, Base w G → Pre G → W w G L d (execs body (envOfC qual scope L f cdv)) [] (Nc L ++ N0) m₀ (BodyPost w G L N0 Post))
    (hco : scope.isCoroutine = false := by rfl) (hgen : scope.isGenerator = false := by rfl) (hk : scope.kind = .function := by rfl) :
    Fn w (d + 1) (.ref f) vs N0 Pre Post := by
  intro A s R B hpre hN0 hndN
  have hX : (KK w).In s.heap := B.inK.keeps fun b o e => of_hideAll _ e
  have hl : s.heap.NoLimit := B.nolimit.keeps fun b o e => of_hideAll _ e
  refine codeAny_call_cells (fd := fnOf name qual params body scope dV kV doc pm an cdv ct) (body := body) (binds := binds) R.lt (hX _ _ ho) rfl hl (codeRec_of hX hcd) rfl hbind rfl
    (fun x hx => ?_) (fun s₁ x => ?_) hco hgen hk
  · exact kindsX hkind _ x hx
  have hsz : s.heap.get? s.heap.objs.size = none := by
    cases q : s.heap.get? s.heap.objs.size with
    | none => rfl
    | some o => exact absurd (Heap.lt_size q) (Nat.lt_irrefl _)
  obtain ⟨⟨⟨h₀, tk₀, rfl⟩, hns, hk₀, hfr⟩, hcl, hap, hab⟩ := x
  have hsz' : ∀ a, s.heap.objs.size ≤ a → s.heap.get? a = none := fun a ha => by
    cases q : s.heap.get? a with
    | none => rfl
    | some o => exact absurd (Heap.lt_size q) (Nat.not_lt.mpr ha)
  have hid : ∀ a, s.heap.objs.size ≤ a → (hideAll s.heap (N0.map (·.1))).get? a = none := fun a ha => by
    cases q : (hideAll s.heap (N0.map (·.1))).get? a with
    | none => rfl
    | some o => have := of_hideAll _ q; rw [hsz' a ha] at this; cases this
  have hlo : ∀ p ∈ N0, p.1 < s.heap.objs.size := fun p hp => by
    obtain ⟨o, ho', _⟩ := hN0 p hp
    exact Heap.lt_size ho'
  -- the cells' names are apart, so a lookup finds each
  have hnd' : ∀ n, ((cellsFrom n scope.names []).map (·.1)).Nodup := fun n => by rw [cellsFrom_names scope.names n 0 [] [] rfl]; exact hnd
  have S₀ : St w (hideAll s.heap (N0.map (·.1))) s.heap.objs.size [] (Nc s.heap.objs.size ++ N0) m₀ h₀ := by
    refine ⟨B, fun b o e => hk₀ b o (of_hideAll _ e), by rw [hm s.heap.objs.size]; exact hns, hid _ (Nat.le_refl _), fun p hp => ?_, ?_, fun _ hp => nomatch hp⟩
    · rw [hc] at hp
      rcases List.mem_append.mp hp with hp | hp
      · obtain ⟨c, hc', rfl⟩ := List.mem_map.mp hp
        have hlk : (cellsFrom (s.heap.objs.size + 1) scope.names []).lookup c.1 = some c.2 := lookup_of_mem_nodup (hnd' _) hc'
        have lt := hab c.1 c.2 hc'
        exact ⟨hcl c.1 c.2 hlk, Nat.ne_of_gt lt, hid _ (Nat.le_of_lt lt)⟩
      · exact ⟨(hN0 p hp).keeps hk₀, Nat.ne_of_lt (hlo p hp), hideAll_none _ (List.mem_map_of_mem hp)⟩
    · rw [hc, List.map_append]
      refine List.nodup_append.mpr ⟨?_, hndN, fun a ha b hb' e => ?_⟩
      · unfold cells0
        rw [List.map_map]
        exact List.pairwise_map.mpr hap
      · unfold cells0 at ha
        rw [List.map_map] at ha
        obtain ⟨c, hc', rfl⟩ := List.mem_map.mp ha
        obtain ⟨p, hp, rfl⟩ := List.mem_map.mp hb'
        have lt := hab c.1 c.2 hc'
        have lt2 := hlo p hp
        have e' : c.2 = p.1 := e
        rw [← e'] at lt2
        exact absurd (Nat.lt_trans lt lt2) (Nat.lt_irrefl _)
  show wpAny _ (A.deeper (envOfC qual scope s.heap.objs.size f cdv)) (execs body (envOfC qual scope s.heap.objs.size f cdv)) _ _ _
  refine wpAny_mono ((hb _ s.heap.objs.size B hpre).run (A.deeper _) { s with heap := h₀, toks := tk₀ } (R.deeper _) S₀) (fun fl s' z => ?_) fun _ _ z => z.elim
  obtain ⟨h', tk, rfl, P', N', m', S', y⟩ := z
  obtain ⟨N₁, S₁, e₁, y⟩ := y h' S'
  exact ⟨h', tk, N₁, rfl, S₁.keep, fun p hp => (S₁.nw p hp).1, ⟨e₁, S₁.nd, fun p hp => (S₁.nw p hp).2.2⟩, y⟩
end
end Nt
end
section
open PySem PySem.W PyProof.Rows PySem.Calls
set_option maxRecDepth 100000
set_option autoImplicit false
set_option linter.unusedVariables false
namespace Nt
noncomputable def lobj (vs : List Value) (n : Nat) : Obj := { cls := .type "list", dict := none, data := .seq vs.toArray n, slots := #[] }
noncomputable def lobjA (vs : Array Value) (n : Nat) : Obj := { cls := .type "list", dict := none, data := .seq vs n, slots := #[] }
noncomputable def tobj (vs : List Value) (n : Nat) : Obj := { cls := .type "tuple", dict := none, data := .seq vs.toArray n, slots := #[] }
noncomputable def lst (vs : List Value) : OP := fun o => ∃ n, o = lobj vs n
noncomputable def tup (vs : List Value) : OP := fun o => ∃ n, o = tobj vs n
theorem Has.isList {h : Heap} {a : Addr} {vs : List Value} (x : Has h a (lst vs)) : h.IsList a vs.toArray := let ⟨_, ho, n, e⟩ := x; ⟨_, ho, by rw [e]; rfl, n, by rw [e]; rfl⟩
theorem Has.isTup {h : Heap} {a : Addr} {vs : List Value} (x : Has h a (tup vs)) : IsTup h a vs.toArray := let ⟨_, ho, n, e⟩ := x; ⟨_, ho, by rw [e]; rfl, n, by rw [e]; rfl⟩
theorem append_raw {w : World} {A : Around} {E : Value → Shared → Prop} {s : Shared} {l : Addr} {vs : List Value} {x : Value} {Q : Value → Shared → Prop} (hl : Has s.heap l (lst vs))
    (hQ : ∀ h', Has h' l (lst (vs ++ [x])) → Heap.SameBut l s.heap h' → Q .none { s with heap := h' }) (hsz : vs.length ≤ sizeLine) : wpAny (model prg w) A (call (.builtin "list.append") [.ref l, x]) Q E s := by
  have hi := hl.isList
  obtain ⟨o, ho, n, rfl⟩ := hl
  refine wpAny_call_entry PySem.slot_list_append hi.typeIs PySem.entry_list_append ?_ (PySem.args_list_append _ _)
  show wpAny _ _ (updateSeq l (·.push x) >>= fun _ => ret .none) _ _ s
  have fin : ∃ k, (s.heap.update l (Obj.mapSeq (·.push x))).get? l = some (lobj (vs ++ [x]) k) := by
    rw [Heap.get?_update_self _ ho rfl]
    show ∃ k, some (lobjA (vs.toArray.push x) _) = some (lobjA (vs ++ [x]).toArray k)
    rw [List.push_toArray]
    exact ⟨_, rfl⟩
  obtain ⟨k, fin⟩ := fin
  refine wpAny_bind (wpAny_updateSeq (hz := by rw [List.size_toArray]; exact hsz) ho rfl (wpAny_pure ⟨.none, rfl, hQ _ ⟨_, fin, _, rfl⟩ (Heap.SameBut.update ..)⟩))
section
variable {α β : Type} {w : World} {G : Heap} {L : Addr} {d : Nat} {P N : Led} {m : Vars} {env : Env}
  {Q : Value → Led → Led → Vars → Prop} {QB : Bool → Led → Led → Vars → Prop} {QU : Unit → Led → Led → Vars → Prop}
  {a b : Int} {t u : Tok}
theorem W_add (q : ∀ t, Q (.int (a + b) t) P N m) : W w G L d (binaryOp .Add (.int a t) (.int b u)) P N m Q := W.mk fun _ s _ S => PyProof.Rows.add_int (Done.here S (q _))
theorem W_sub (q : ∀ t, Q (.int (a - b) t) P N m) : W w G L d (binaryOp .Sub (.int a t) (.int b u)) P N m Q := W.mk fun _ s _ S => PyProof.Rows.sub_int (Done.here S (q _))
theorem W_mul (q : ∀ t, Q (.int (a * b) t) P N m) (hm : IntMulOk a b := by mul_fits) : W w G L d (binaryOp .Mult (.int a t) (.int b u)) P N m Q := W.mk fun _ s _ S => PyProof.Rows.mul_int (Done.here S (q _)) hm
theorem W_fdiv (hb : b ≠ 0) (hp : Builtin.divisionGoesByPylong a b = false) (q : ∀ t, Q (.int (a.fdiv b) t) P N m) : W w G L d (binaryOp .FloorDiv (.int a t) (.int b u)) P N m Q := W.mk fun _ s _ S =>
  PyProof.Rows.floordiv_int hb (Done.here S (q _)) (.inl hp)
theorem W_mod (hb : b ≠ 0) (q : ∀ t, Q (.int (a.fmod b) t) P N m) : W w G L d (binaryOp .Mod (.int a t) (.int b u)) P N m Q := W.mk fun _ s _ S => mod_int' hb (Done.here S (q _))
theorem W_iadd (q : ∀ t, Q (.int (a + b) t) P N m) : W w G L d (inplaceOp .Add (.int a t) (.int b u)) P N m Q := W.mk fun _ s _ S => PyProof.Rows.iadd_int (Done.here S (q _))
theorem W_lt (q : Q (.bool (decide (a < b))) P N m) : W w G L d (compareOp .Lt (.int a t) (.int b u)) P N m Q := W.mk fun _ s _ S => PyProof.Rows.lt_int (Done.here (tk := s.toks) S q)
theorem W_leI (q : Q (.bool (decide (a ≤ b))) P N m) : W w G L d (compareOp .LtE (.int a t) (.int b u)) P N m Q := W.mk fun _ s _ S => PyProof.Rows.le_int (Done.here (tk := s.toks) S q)
theorem W_gt (q : Q (.bool (decide (b < a))) P N m) : W w G L d (compareOp .Gt (.int a t) (.int b u)) P N m Q := W.mk fun _ s _ S => PyProof.Rows.gt_int (Done.here (tk := s.toks) S q)
theorem W_eqI (q : Q (.bool (a == b)) P N m) : W w G L d (compareOp .Eq (.int a t) (.int b u)) P N m Q := W.mk fun _ s _ S => PyProof.Rows.eq_int (Done.here (tk := s.toks) S q)
theorem W_neI (q : Q (.bool (a != b)) P N m) : W w G L d (compareOp .NotEq (.int a t) (.int b u)) P N m Q := W.mk fun _ s _ S => PyProof.Rows.ne_int (Done.here (tk := s.toks) S q)
theorem W_eqB {x y : Bool} (q : Q (.bool (x == y)) P N m) : W w G L d (compareOp .Eq (.bool x) (.bool y)) P N m Q := W.mk fun _ s _ S => PyProof.Rows.eq_bool (Done.here (tk := s.toks) S q)
theorem W_lenL {l : Addr} {vs : List Value} (hl : Rd G P N l (lst vs)) (hf : vs.length < 2 ^ 63) (q : ∀ t, Q (.int vs.length t) P N m) : W w G L d (call (.builtin "len") [.ref l]) P N m Q := W.mk fun _ s _ S =>
  Calls.call_len_list (S.rd hl).isList (by rw [List.size_toArray]; omega) (by rw [List.size_toArray]; exact Done.here S (q _))
theorem W_lenT {l : Addr} {vs : List Value} (hl : Rd G P N l (tup vs)) (hf : vs.length < 2 ^ 63) (q : ∀ t, Q (.int vs.length t) P N m) : W w G L d (call (.builtin "len") [.ref l]) P N m Q := W.mk fun _ s _ S =>
  PyProof.Rows.len_tuple (S.rd hl).isTup (by rw [List.size_toArray]; omega) (by rw [List.size_toArray]; exact Done.here S (q _))
theorem W_Subscript {v i : Expr} {pos : Pos} (x : W w G L d (eval v env) P N m (Kt2 w G L d (eval i env) (subscriptTail v i) Q)) : W w G L d (eval (.Subscript v i pos) env) P N m Q := W.mk fun A s R S =>
  Subscript_ (x.go R S fun o h1 t1 P1 N1 m1 S1 y => y.go R S1 fun j h2 t2 P2 N2 m2 S2 z => W.at z R S2)
theorem W_itemL {v i : Expr} {l : Addr} {vs : List Value} {k : Int} {x : Value} (hl : Rd G P N l (lst vs)) (h0 : 0 ≤ k) (hx : vs[k.toNat]? = some x) (hf : k < 2 ^ 63) (q : Q x P N m)
    (hs : subscripted i false (.ref l) (.int k u) = operate [.ref l, .int k u] (getItem (.ref l) (.int k u)) := by with_unfolding_all rfl) : W w G L d (subscriptTail v i (.ref l) (.int k u)) P N m Q := W.mk fun _ s _ S =>
  tail_any (S.rd hl).isList.typeIs slot_list_getitem.lookup (wpAny_getItem_list (S.rd hl).isList h0 hf (by simpa using hx) (Done.here (tk := s.toks) S q)) hs
theorem W_itemLneg {v i : Expr} {l : Addr} {vs : List Value} {k : Int} {x : Value} (hl : Rd G P N l (lst vs)) (h0 : k < 0) (h1 : -(vs.length : Int) ≤ k) (hf : -(2 ^ 63) ≤ k) (hx : vs[(k + vs.length).toNat]? = some x) (q : Q x P N m)
    (hs : subscripted i false (.ref l) (.int k u) = operate [.ref l, .int k u] (getItem (.ref l) (.int k u)) := by with_unfolding_all rfl) : W w G L d (subscriptTail v i (.ref l) (.int k u)) P N m Q := W.mk fun _ s _ S =>
  tail_any (S.rd hl).isList.typeIs slot_list_getitem.lookup (wpAny_getItem_list_neg (S.rd hl).isList h0 (by rw [List.size_toArray]; exact h1) hf (by rw [List.size_toArray]; simpa using hx) (Done.here (tk := s.toks) S q)) hs
theorem W_itemT {v i : Expr} {l : Addr} {vs : List Value} {k : Int} {j : Nat} {x : Value} (hl : Rd G P N l (tup vs)) (hlo : -(2 ^ 63) ≤ k) (hhi : k < 2 ^ 63) (hj : seqIndex? k vs.length = some j) (hx : vs[j]? = some x) (q : Q x P N m)
    (hs : subscripted i false (.ref l) (.int k u) = operate [.ref l, .int k u] (getItem (.ref l) (.int k u)) := by with_unfolding_all rfl) : W w G L d (subscriptTail v i (.ref l) (.int k u)) P N m Q := W.mk fun _ s _ S =>
  item_tupleT (S.rd hl).isTup hlo hhi hj hx (Done.here (tk := s.toks) S q) hs
theorem get_size_none (h : Heap) : h.get? h.objs.size = none := by
  cases q : h.get? h.objs.size with
  | none => rfl
  | some o => exact absurd (Heap.lt_size q) (Nat.lt_irrefl _)
theorem W_newList {vs : List Value} (hsz : vs.length ≤ sizeLine) (q : ∀ r, Q (.ref r) P ((r, lst vs) :: N) m) : W w G L d (newList vs) P N m Q := W.mk fun _ s _ S =>
  wpAny_newObj_type (Done.here (tk := s.toks) (S.new (get_size_none _) (fun _ _ e => Heap.get?_push_of_some _ e) ⟨_, Heap.get?_push_size _ rfl, _, rfl⟩) (q _)) (by show vs.toArray.size ≤ sizeLine; rw [List.size_toArray]; exact hsz)
theorem W_newTuple {vs : List Value} (hsz : vs.length ≤ sizeLine) (q : ∀ r, G.get? r = none → Q (.ref r) ((r, tup vs) :: P) N m) : W w G L d (newTuple vs) P N m Q := W.mk fun _ s _ S =>
  wpAny_newObj_type (Done.here (tk := s.toks) (St.freeze (S.new (get_size_none _) (fun _ _ e => Heap.get?_push_of_some _ e) ⟨_, Heap.get?_push_size _ rfl, _, rfl⟩)) (q _ (S.fresh (get_size_none _)).2.2.2)) (by show vs.toArray.size ≤ sizeLine; rw [List.size_toArray]; exact hsz)
theorem W_append {l : Addr} {vs : List Value} {v : Value} {N' : Led} (hu : Upd l (lst vs) (lst (vs ++ [v])) N N') (hsz : vs.length ≤ sizeLine) (q : Q .none P N' m) : W w G L d (call (.builtin "list.append") [.ref l, v]) P N m Q := W.mk fun _ s _ S =>
  append_raw (S.nw _ hu.mem).1 (fun h' hl hs => Done.here (tk := s.toks) (S.upd hu (fun b o hb e => (hs.2 b hb).trans e) hl) q) hsz
end
end Nt
end
section
open PySem PySem.W PyProof.Rows PySem.Calls
set_option maxRecDepth 100000
set_option autoImplicit false
set_option linter.unusedVariables false
namespace Nt
noncomputable abbrev Le (G G' : Heap) : Prop := ∀ b o, G.get? b = some o → G'.get? b = some o
section
variable {α : Type} {w : World} {G G' : Heap} {L : Addr} {d : Nat} {P N : Led} {m : Vars} {h : Heap}
theorem St.rebase (S : St w G L P N m h) : ∃ G', A3 (Le G G') (St w G' L P N m h) (∀ a o, h.get? a = some o → a ≠ L → a ∉ N.map (·.1) → G'.get? a = some o) := by
  refine ⟨hideAll h (L :: N.map (·.1)), fun b o e => hideAll_get _ (S.keep b o e) fun q => ?_, ⟨S.base.keeps fun b o e => hideAll_get _ (S.keep b o e) fun q => ?_, fun b o e => of_hideAll _ e, S.ns, hideAll_none _ (.head _), fun p hp => ⟨(S.nw p hp).1, (S.nw p hp).2.1, hideAll_none _ (.tail _ (List.mem_map_of_mem hp))⟩, S.nd, S.ps⟩,
    fun a o e h1 h2 => hideAll_get _ e fun q => (List.mem_cons.mp q).elim h1 h2⟩
  all_goals
    rcases List.mem_cons.mp q with q | q
    · rw [q, S.out] at e; cases e
    · obtain ⟨p, hp, rfl⟩ := List.mem_map.mp q
      rw [(S.nw p hp).2.2] at e; cases e
theorem St.down (S : St w G' L P N m h) (B : Base w G) (k : Le G G') : St w G L P N m h :=
  ⟨B, fun b o e => S.keep b o (k b o e), S.ns, none_of_keep k S.out, fun p hp => ⟨(S.nw p hp).1, (S.nw p hp).2.1, none_of_keep k (S.nw p hp).2.2⟩, S.nd, S.ps⟩
/-- the facts that stay become part of the frozen heap -/
theorem W.rebase {t : Sem α} {Q : α → Led → Led → Vars → Prop} (x : ∀ G', Le G G' → Base w G' → (∀ p ∈ P, Has G' p.1 p.2) → W w G' L d t P N m Q) : W w G L d t P N m Q := W.mk fun A s R S => by
  obtain ⟨G', le, S', hin⟩ := S.rebase
  refine (x G' le S'.base fun p hp => ?_).go R S' fun a h' tk P' N' m' S2 q => ⟨h', tk, rfl, P', N', m', S2.down S.base le, q⟩
  obtain ⟨⟨o, ho, r⟩, h1, h2⟩ := S.ps p hp
  exact ⟨o, hin _ _ ho h1 h2, r⟩
noncomputable def Src (w : World) (G : Heap) (P : Led) (v : Value) (n : Nat) (item : Nat → Value → Prop) : Prop :=
  ∀ (A : Around) (s : Shared) (L : Addr) (N : Led) (m : Vars) (R : Value → Shared → Prop), A.handled = none → St w G L P N m s.heap →
    (∀ (I : Addr) (h' : Heap) (fp wr : List Addr) (S : Nat → Heap → Prop), Walks prg w A I fp wr n item S → S 0 h' → Le s.heap h' → (∀ b ∈ fp, b ≠ L ∧ b ∉ N.map (·.1) ∧ ∃ o, h'.get? b = some o) →
      (∀ (t : Expr) (v : Value) (i : Nat) (s' : Shared) (Q : Unit → Shared → Prop) (E : Value → Shared → Prop), S i s'.heap → Q () s' → wpAny (model prg w) A (letOwnedTupleGo t (.ref I) v) Q E s') → (∀ b ∈ wr, s.heap.get? b = none) → (∀ i h, S i h → ∀ b ∈ wr, ∃ o, h.get? b = some o) → R (.ref I) { s with heap := h' }) →
    wpAny (model prg w) A (pyIter v) R Nope s
noncomputable def Rp (G : Heap) (P : Led) (a : Addr) (p : OP) : Prop := (a, p) ∈ P ∨ Has G a p
theorem St.rp {a : Addr} {p : OP} (S : St w G L P N m h) (r : Rp G P a p) : Has h a p ∧ a ≠ L ∧ a ∉ N.map (·.1) := by
  rcases r with r | r
  · exact S.ps _ r
  · obtain ⟨o, ho, hp⟩ := r
    refine ⟨⟨o, S.keep _ _ ho, hp⟩, fun q => ?_, fun q => ?_⟩
    · rw [q, S.out] at ho; cases ho
    · obtain ⟨x, hx, e⟩ := List.mem_map.mp q
      rw [← e, (S.nw x hx).2.2] at ho; cases ho
theorem go_iter {A : Around} {I : Addr} {o : Obj} {T : String} {vs : Array Value} {t : Expr} {v : Value} {s : Shared} {Q : Unit → Shared → Prop} {E : Value → Shared → Prop} (ho : s.heap.get? I = some o) (hc : o.cls = .type T) (hd : o.data = .fields vs)
    (hT : ["enumerate", "zip", "dict_itemiterator", "dict_reverseitemiterator", "odict_iterator", "itertools.zip_longest", "itertools.pairwise"].contains T = false) (q : Q () s) : wpAny (model prg w) A (letOwnedTupleGo t (.ref I) v) Q E s := by
  unfold letOwnedTupleGo
  split
  · split
    · rename_i e
      cases e
      refine wpAny_bind (wpAny_load ho ?_)
      rw [hc, hd]
      dsimp only
      rw [hT, Bool.false_and, if_neg (by simp)]
      exact wpAny_pure q
    · exact wpAny_pure q
  · split
    · rename_i e
      cases e
      refine wpAny_bind (wpAny_load ho ?_)
      rw [hc, hd]
      dsimp only
      rw [hT, Bool.false_and, if_neg (by simp)]
      exact wpAny_pure q
    · exact wpAny_pure q
  · exact wpAny_pure q
theorem new_ne {o : Obj} {b : Addr} (h : Heap) (e : h.get? b = some o) : b ≠ h.objs.size := Nat.ne_of_lt (Heap.lt_size e)
theorem Src.list {l : Addr} {vs : List Value} (hl : Rp G P l (lst vs)) : Src w G P (.ref l) vs.length (fun (i : Nat) (v : Value) => vs[i]? = some v) := by
  intro A s L N m R hh S k
  obtain ⟨hl, n1, n2⟩ := S.rp hl
  have hls : s.heap.IsList l vs.toArray := hl.isList
  obtain ⟨ol, hol, _⟩ := id hl
  refine wpAny_pyIter_list hls ?_
  have W := Walks.list (prog := prg) (w := w) hh s.heap.objs.size l (new_ne _ hol) vs.toArray
  have e : (fun (i : Nat) (v : Value) => vs.toArray[i]? = some v) = fun (i : Nat) (v : Value) => vs[i]? = some v := by funext i v; simp
  rw [e, List.size_toArray] at W
  have f := S.fresh (get_size_none s.heap)
  refine k _ _ _ _ _ W ⟨⟨_, Heap.get?_push_size _ rfl, rfl, rfl⟩, hls.push _⟩ (fun _ _ e => Heap.get?_push_of_some _ e) (fun b hb => ?_) (fun t v i s' Q E hst q => ?_) (fun b hb => by rw [List.mem_singleton.mp hb]; exact get_size_none _) (fun i h hst b hb => by rw [List.mem_singleton.mp hb]; exact let ⟨⟨o, ho, _⟩, _⟩ := hst; ⟨o, ho⟩)
  · rcases List.mem_cons.mp hb with rfl | hb
    · exact ⟨f.1, f.2.1, _, Heap.get?_push_size _ rfl⟩
    · rw [List.mem_singleton.mp hb]
      exact ⟨n1, n2, _, Heap.get?_push_of_some _ hol⟩
  · obtain ⟨⟨o, ho, hc, hd⟩, _⟩ := hst
    exact go_iter ho hc hd (by decide) q
theorem Src.tuple {l : Addr} {vs : List Value} (hl : Rp G P l (tup vs)) : Src w G P (.ref l) vs.length (fun (i : Nat) (v : Value) => vs[i]? = some v) := by
  intro A s L N m R hh S k
  obtain ⟨hl, n1, n2⟩ := S.rp hl
  have hls : s.heap.IsTuple l vs.toArray := hl.isTup
  obtain ⟨ol, hol, _⟩ := id hl
  refine wpAny_pyIter_tuple hls ?_
  have W := Walks.tuple (prog := prg) (w := w) hh s.heap.objs.size l (new_ne _ hol) vs.toArray
  have e : (fun (i : Nat) (v : Value) => vs.toArray[i]? = some v) = fun (i : Nat) (v : Value) => vs[i]? = some v := by funext i v; simp
  rw [e, List.size_toArray] at W
  have f := S.fresh (get_size_none s.heap)
  refine k _ _ _ _ _ W ⟨⟨_, Heap.get?_push_size _ rfl, rfl, rfl⟩, (Has.keeps hl fun _ _ e => Heap.get?_push_of_some _ e).isTup⟩ (fun _ _ e => Heap.get?_push_of_some _ e) (fun b hb => ?_) (fun t v i s' Q E hst q => ?_) (fun b hb => by rw [List.mem_singleton.mp hb]; exact get_size_none _) (fun i h hst b hb => by rw [List.mem_singleton.mp hb]; exact let ⟨⟨o, ho, _⟩, _⟩ := hst; ⟨o, ho⟩)
  · rcases List.mem_cons.mp hb with rfl | hb
    · exact ⟨f.1, f.2.1, _, Heap.get?_push_size _ rfl⟩
    · rw [List.mem_singleton.mp hb]
      exact ⟨n1, n2, _, Heap.get?_push_of_some _ hol⟩
  · obtain ⟨⟨o, ho, hc, hd⟩, _⟩ := hst
    exact go_iter ho hc hd (by decide) q
noncomputable def rng (a b c : Int) : OP := fun o => X3 fun t u v => o = { cls := .type "range", dict := none, data := .fields #[.int a t, .int b u, .int c v], slots := #[] }
theorem Src.range {r : Addr} {a b c : Int} {n : Nat} (hl : Rp G P r (rng a b c)) (hs : Builtin.Range.small a b c = true) (hn : Builtin.Range.rangeSize a b c = n) : Src w G P (.ref r) n (fun i v => ∃ t, v = .int (a + i * c) t) := by
  intro A s L N m R hh S k
  obtain ⟨⟨o, ho, t, u, v, rfl⟩, n1, n2⟩ := S.rp hl
  refine wpAny_pyIter_range ho hs ?_
  have W := Walks.range (prog := prg) (w := w) hh s.heap.objs.size a c n
  have f := S.fresh (get_size_none s.heap)
  refine k _ _ _ _ _ W ?_ (fun _ _ e => Heap.get?_push_of_some _ e) (fun b hb => ?_) (fun t v i s' Q E hst q => ?_) (fun b hb => by rw [List.mem_singleton.mp hb]; exact get_size_none _) (fun i h hst b hb => by rw [List.mem_singleton.mp hb]; exact ⟨_, hst⟩)
  · show IsRangeIter _ _ (a + ((0 : Nat) : Int) * c) ((n : Int) - ((0 : Nat) : Int)) c
    rw [hn]
    have e1 : a + ((0 : Nat) : Int) * c = a := by simp
    have e2 : (n : Int) - ((0 : Nat) : Int) = n := by simp
    rw [e1, e2]
    exact Heap.get?_push_size _ rfl
  · rw [List.mem_singleton.mp hb]
    exact ⟨f.1, f.2.1, _, Heap.get?_push_size _ rfl⟩
  · exact go_iter hst rfl rfl (by decide) q
end
section
variable {w : World} {G : Heap} {L : Addr} {d : Nat} {P N : Led} {m : Vars} {env : Env} {QF : Flow → Led → Led → Vars → Prop} {Q : Value → Led → Led → Vars → Prop}
/-- what a turn of a for hands on -/
noncomputable def Turn (P1 : Led) (Inv : Led → Vars → Prop) (QF : Flow → Led → Led → Vars → Prop) : Flow → Led → Led → Vars → Prop := fun f P N m => match f with
  | .next => (∀ p ∈ P1, p ∈ P) ∧ Inv N m
  | .cont => (∀ p ∈ P1, p ∈ P) ∧ Inv N m
  | .brk => QF .next P N m
  | .ret v => QF (.ret v) P N m
/-- the heap behind a step of an iterator -/
theorem St.iter {P1 : Led} {fp wr : List Addr} {h h' : Heap} (S : St w G L P1 N m h) (hs : ∀ b ∈ wr, b ∈ fp) (hf : ∀ b ∈ fp, b ≠ L ∧ b ∉ N.map (·.1)) (hG : ∀ b ∈ wr, G.get? b = none) (hP : ∀ b ∈ wr, ∀ p ∈ P1, p.1 ≠ b) (k : ∀ b o, b ∉ wr → h.get? b = some o → h'.get? b = some o) : St w G L P1 N m h' := by
  refine ⟨S.base, fun b o e => k b o (fun q => by rw [hG b q] at e; cases e) (S.keep b o e), ?_, S.out, fun p hp => ⟨?_, (S.nw p hp).2⟩, S.nd, fun p hp => ⟨?_, (S.ps p hp).2⟩⟩
  · obtain ⟨o, es, ep, ho, r⟩ := S.ns
    exact ⟨o, es, ep, k _ _ (fun q => (hf _ (hs _ q)).1 rfl) ho, r⟩
  · obtain ⟨o, ho, r⟩ := (S.nw p hp).1
    exact ⟨o, k _ _ (fun q => (hf _ (hs _ q)).2 (List.mem_map_of_mem hp)) ho, r⟩
  · obtain ⟨o, ho, r⟩ := (S.ps p hp).1
    exact ⟨o, k _ _ (fun q => hP _ q p hp rfl) ho, r⟩
/-- what a for owes behind its iterable -/
inductive ForPost (w : World) (G : Heap) (L : Addr) (d : Nat) (target : Expr) (env : Env) (body : List Stmt) (QF : Flow → Led → Led → Vars → Prop) (v : Value) (P1 N : Led) (m : Vars) : Prop
  | mk (n : Nat) (item : Nat → Value → Prop) (Inv : Nat → Led → Vars → Prop) (src : Src w G P1 v n item) (start : Inv 0 N m)
    (turn : ∀ G', Le G G' → ∀ i v N m, i < n → item i v → Inv i N m → W w G' L d (assign target env v) P1 N m (Kt w G' L d (fun _ => execs body env) (Turn P1 (Inv (i + 1)) QF)))
    (done : ∀ N m, Inv n N m → QF .next P1 N m)
theorem W_ForG {target iter : Expr} {body : List Stmt} {pos : Pos}
    (hiter : W w G L d (eval iter env) P N m (ForPost w G L d target env body QF)) (hs : ∀ x, foldedSetIterable iter env x = pure x := by intro _; rfl) : W w G L d (exec (.For target iter body [] pos) env) P N m QF := by
  refine W.mk fun A s R S => ?_
  refine wpAny_For (hiter.go R S fun v h1 t1 P1' N1 m1 S1 y => ?_) hs
  obtain ⟨n, item, Inv, ysrc, y0, turn, done⟩ := y
  refine ysrc A _ L N1 m1 _ R.handled S1 fun I h' fp wr Sw W h0 hle hfp hgo hwr hlive => ?_
  have B := S1.base
  have hG : ∀ b ∈ wr, G.get? b = none := fun b hb => none_of_keep S1.keep (hwr b hb)
  have hP : ∀ b ∈ wr, ∀ p ∈ P1', p.1 ≠ b := fun b hb p hp e => by
    obtain ⟨o, ho, _⟩ := (S1.ps p hp).1
    rw [e, hwr b hb] at ho; cases ho
  let J : Nat → Shared → Prop := fun k s' => X2 fun h' tk => s' = { s with heap := h', toks := tk } ∧ X3 fun i N m => A6 (i ≤ n) (k = n - i) (St w G L P1' N m h') (Inv i N m) (Sw i h') (∀ b ∈ fp, b ≠ L ∧ b ∉ N.map (·.1) ∧ ∃ o, h'.get? b = some o)
  refine codeAny_forLoop_any (I := J) (fun k s' hJ => ?_) n ⟨h', t1, rfl, 0, N1, m1, Nat.zero_le _, rfl, S1.grow hle, y0, h0, hfp⟩
  obtain ⟨h2, t2, rfl, i, N2, m2, hin, rfl, S2, inv, hsw, hf2⟩ := hJ
  have hf2' : ∀ b ∈ fp, b ≠ L ∧ b ∉ N2.map (·.1) := fun b hb => ⟨(hf2 b hb).1, (hf2 b hb).2.1⟩
  by_cases hi : i < n
  · refine W.item i _ _ _ hi hsw fun v h3 t3 hv hst hk => ?_
    have S3 : St w G L P1' N2 m2 h3 := S2.iter W.sub hf2' hG hP hk
    have hf3 : ∀ b ∈ fp, ∃ o, h3.get? b = some o := fun b hb => by
      by_cases q : b ∈ wr
      · exact hlive _ _ hst b q
      · obtain ⟨_, _, o, ho⟩ := hf2 b hb
        exact ⟨o, hk b o q ho⟩
    refine hgo target v (i + 1) _ _ _ hst ?_
    obtain ⟨G', le, S4, hin'⟩ := S3.rebase
    refine (turn G' le i v N2 m2 hi hv inv).go (s := { s with heap := h3, toks := t3 }) R S4 fun _ h5 t5 P5 N5 m5 S5 y5 => ?_
    refine y5.go (s := { s with heap := h5, toks := t5 }) R S5 fun f h6 t6 P6 N6 m6 S6 y6 => ?_
    have fin : (∀ p ∈ P1', p ∈ P6) ∧ Inv (i + 1) N6 m6 → ∃ k, k < n - i ∧ J k { s with heap := h6, toks := t6 } := fun z => by
      have hfG : ∀ b ∈ fp, ∃ o, G'.get? b = some o ∧ h3.get? b = some o := fun b hb => by
        obtain ⟨o, ho⟩ := hf3 b hb
        exact ⟨o, hin' b o ho (hf2' b hb).1 (hf2' b hb).2, ho⟩
      refine ⟨n - (i + 1), by omega, h6, t6, rfl, i + 1, N6, m6, hi, rfl, (S6.down B le).subP z.1, z.2, W.frame _ _ _ hst fun b hb o ho => ?_, fun b hb => ?_⟩
      · obtain ⟨o', q1, q2⟩ := hfG b hb
        rw [ho] at q2; cases q2
        exact S6.keep _ _ q1
      · obtain ⟨o', q1, q2⟩ := hfG b hb
        refine ⟨(hf2' b hb).1, fun q => ?_, o', S6.keep _ _ q1⟩
        obtain ⟨p, hp, rfl⟩ := List.mem_map.mp q
        rw [(S6.nw p hp).2.2] at q1; cases q1
    cases f with
    | next => exact fin y6
    | cont => exact fin y6
    | brk => exact ⟨h6, t6, rfl, P6, N6, m6, S6.down B le, y6⟩
    | ret v => exact ⟨h6, t6, rfl, P6, N6, m6, S6.down B le, y6⟩
  · have : i = n := by omega
    subst this
    refine W.done _ _ _ hsw fun h3 t3 hk => ?_
    have S3 : St w G L P1' N2 m2 h3 := S2.iter W.sub hf2' hG hP hk
    exact wpAny_execs_nil ⟨h3, t3, rfl, P1', N2, m2, S3, done _ _ inv⟩
theorem W_For {target iter : Expr} {body : List Stmt} {pos : Pos} (P1 : Led) (n : Nat) (item : Nat → Value → Prop) (Inv : Nat → Led → Vars → Prop)
    (hiter : W w G L d (eval iter env) P N m fun v P' N m => P' = P1 ∧ Src w G P1 v n item ∧ Inv 0 N m)
    (turn : ∀ G', Le G G' → ∀ i v N m, i < n → item i v → Inv i N m → W w G' L d (assign target env v) P1 N m (Kt w G' L d (fun _ => execs body env) (Turn P1 (Inv (i + 1)) QF)))
    (done : ∀ N m, Inv n N m → QF .next P1 N m) (hs : ∀ x, foldedSetIterable iter env x = pure x := by intro _; rfl) : W w G L d (exec (.For target iter body [] pos) env) P N m QF :=
  W_ForG (hiter.mono fun v P' N' m' ⟨e, x, y⟩ => by subst e; exact ⟨n, item, Inv, x, y, turn, done⟩) hs
end
end Nt
end
section
open PySem PySem.W PyProof.Rows PySem.Calls
set_option maxRecDepth 100000
set_option autoImplicit false
set_option linter.unusedVariables false
namespace Nt
noncomputable def tests (ifs : List Expr) (env : Env) : Sem Bool := forIn ifs true fun c r => if r = true then do let ok ← isTrue c env (eval c env); pure (ForInStep.yield ok) else pure (ForInStep.yield r)
section
variable {w : World} {G : Heap} {L : Addr} {d : Nat} {P N : Led} {m : Vars} {env : Env} {Q : Value → Led → Led → Vars → Prop} {QB : Bool → Led → Led → Vars → Prop}
theorem W_tests0 (q : QB true P N m) : W w G L d (tests [] env) P N m QB := by
  unfold tests; rw [List.forIn_nil]; exact W_pure q
theorem W_tests1 {c : Expr} (x : W w G L d (isTrue c env (eval c env)) P N m QB) : W w G L d (tests [c] env) P N m QB := by
  unfold tests
  rw [List.forIn_cons]
  refine W_bind ?_
  simp only [if_true]
  refine W_bind (x.mono fun b P N m y => ?_)
  exact W_pure (by dsimp only; rw [List.forIn_nil]; exact W_pure y)
/-- the post of an element -/
noncomputable def EltPost (P1 : Led) (x : Str) (v : Value) (K : Value → Led → Prop) : Value → Led → Led → Vars → Prop := fun y P N m => (∀ p ∈ P1, p ∈ P) ∧ m = [(x, some v)] ∧ K y N
noncomputable def TestPost (w : World) (G' : Heap) (C : Addr) (d : Nat) (elt : Expr) (cenv : Env) (P1 : Led) (x : Str) (v : Value) (K : Value → Led → Prop) (no : Led → Prop) : Bool → Led → Led → Vars → Prop := fun ok P N m =>
  (ok = true → W w G' C d (eval elt cenv) P N m (EltPost P1 x v K)) ∧ (ok = false → (∀ p ∈ P1, p ∈ P) ∧ m = [(x, some v)] ∧ no N)
/-- what a comprehension owes behind its iterable -/
inductive CompPost (w : World) (G : Heap) (d : Nat) (x : Str) (elt : Expr) (ifs : List Expr) (cenv : Addr → Env) (QR : Addr → List Value → Led → Led → Prop) (m : Vars) (v : Value) (P1 N' : Led) (m' : Vars) : Prop
  | mk (n : Nat) (item : Nat → Value → Prop) (Inv : Nat → List Value → Led → Prop) (hn : n ≤ sizeLine) (hm : m' = m) (src : Src w G P1 v n item) (start : Inv 0 [] N')
    (turn : ∀ G', Le G G' → ∀ C i v ys N, i < n → item i v → Inv i ys N → ys.length ≤ i → W w G' C d (tests ifs (cenv C)) P1 N [(x, some v)] (TestPost w G' C d elt (cenv C) P1 x v (fun y N => Inv (i + 1) (ys ++ [y]) N) (Inv (i + 1) ys)))
    (done : ∀ ys N r, Inv n ys N → ys.length ≤ n → QR r ys P1 N)
/-- a comprehension where it is through: its list at D, its frame at C -/
inductive CompDone (w : World) (G : Heap) (L : Addr) (P1 : Led) (m : Vars) (D C : Addr) (ys : List Value) (N : Led) (mc : Vars) (h : Heap) : Prop
  | mk (st : St w G L P1 N m h) (hd : Has h D (lst ys)) (hns : h.Ns C (lk mc)) (hDL : D ≠ L) (hDP : D ∉ P1.map (·.1)) (hDG : G.get? D = none) (hDN : D ∉ N.map (·.1)) (hCL : C ≠ L) (hCP : C ∉ P1.map (·.1)) (hCG : G.get? C = none) (hCN : C ∉ N.map (·.1)) (hDC : D ≠ C)
theorem CompDone.end {P1 : Led} {D C : Addr} {ys : List Value} {mc : Vars} {h h' : Heap} (x : CompDone w G L P1 m D C ys N mc h) (hs : Heap.SameBut C h h') : St w G L P1 ((D, lst ys) :: N) m h' := by
  obtain ⟨S5, hd5, hns5, hDL, hDP, hDG, hDN, hCL, hCP, hCG, hCN, hDC⟩ := x
  have hk6 : ∀ b o, b ≠ C → h.get? b = some o → h'.get? b = some o := fun b o hb e => (hs.2 b hb).trans e
  refine ⟨S5.base, fun b o e => hk6 _ _ (fun q => by rw [q, hCG] at e; cases e) (S5.keep b o e), let ⟨o, es, ep, ho, r⟩ := S5.ns; ⟨o, es, ep, hk6 _ _ (Ne.symm hCL) ho, r⟩, S5.out,
    fun p hp => ?_, ?_, fun p hp => ⟨let ⟨o, ho, r⟩ := (S5.ps p hp).1; ⟨o, hk6 _ _ (fun q => hCP (q ▸ List.mem_map_of_mem hp)) ho, r⟩, (S5.ps p hp).2.1, fun q => ?_⟩⟩
  · rcases List.mem_cons.mp hp with rfl | hp
    · exact ⟨let ⟨o, ho, r⟩ := hd5; ⟨o, hk6 _ _ hDC ho, r⟩, hDL, hDG⟩
    · exact ⟨let ⟨o, ho, r⟩ := (S5.nw p hp).1; ⟨o, hk6 _ _ (fun q => hCN (q ▸ List.mem_map_of_mem hp)) ho, r⟩, (S5.nw p hp).2⟩
  · rw [List.map_cons, List.nodup_cons]; exact ⟨hDN, S5.nd⟩
  · rw [List.map_cons] at q
    rcases List.mem_cons.mp q with q | q
    · exact hDP (List.mem_map.mpr ⟨p, hp, q⟩)
    · exact (S5.ps p hp).2.2 q
theorem comp_core {elt iter : Expr} {x : Str} {px : Pos} {ifs : List Expr} {scope : Scope} {pos cp : Pos} {cl : List (Str × Addr)} {use : Option (Value → Sem Unit)} {Qc : Value → Shared → Prop} {QR : Addr → List Value → Led → Led → Prop} {A : Around} {s : Shared}
    (hiter : W w G L d (eval iter env) P N m (CompPost w G d x elt ifs (fun C => compEnvC scope cl C env) QR m)) (R : Room d A) (S : St w G L P N m s.heap)
    (fin : ∀ D C h5 t5 P1 N4 ys mc, CompDone w G L P1 m D C ys N4 mc h5 → QR D ys P1 N4 → compPost (model prg w) A Nope use Qc (.ref D) C (.ok .next) { s with heap := h5, toks := t5 })
    (hclos : closureFor scope env = pure cl := by rfl) (hs : ∀ x, foldedSetIterable iter env x = pure x := by intro _; rfl) (hkind : scope.kind = .function := by rfl)
    (hnames : ∀ x ∈ scope.names, x.2 = .local → scope.names.lookup x.1 = some .local := by decide) (hcell : ∀ x ∈ scope.names, x.2 ≠ .cell := by decide) (hx : ∀ C, (compEnvC scope cl C env).kindOf x = some .local := by intro _; rfl) :
    wpAny (model prg w) A (comprehension (.ListComp elt [⟨.Name x px, iter, ifs, 0⟩] scope pos) scope env cp (newList []) false (eval iter env) use) Qc Nope s := by
  refine wpAny_comprehension_free (cl := cl) rfl hs hclos hkind hnames ?_
  show wpAny _ A (eval iter env) _ _ s
  refine hiter.go R S fun v h1 t1 P1' N1 m1 S1 y => ?_
  obtain ⟨n, item, Inv, hn, rfl, ysrc, y0, turn, done⟩ := y
  refine ysrc A _ L N1 m1 _ R.handled S1 fun I h' fp wr Sw W h0 hle hfp hgo hwr hlive => ?_
  have hG : ∀ b ∈ wr, G.get? b = none := fun b hb => none_of_keep S1.keep (hwr b hb)
  have hP : ∀ b ∈ wr, ∀ p ∈ P1', p.1 ≠ b := fun b hb p hp e => by
    obtain ⟨o, ho, _⟩ := (S1.ps p hp).1
    rw [e, hwr b hb] at ho; cases ho
  have S1' := S1.grow hle
  refine wpAny_newObj_type ?_ (by show ([] : List Value).toArray.size ≤ sizeLine; simp)
  have hDf := S1'.fresh (get_size_none h')
  generalize hD : h'.objs.size = D at hDf
  have hDn : h'.get? D = none := by rw [← hD]; exact get_size_none _
  have hd1 : Has (h'.push { cls := .type "list", data := .seq ([] : List Value).toArray }) D (lst []) := by rw [← hD]; exact ⟨_, Heap.get?_push_size _ rfl, _, rfl⟩
  have S2 : St w G L P1' N1 m1 (h'.push { cls := .type "list", data := .seq ([] : List Value).toArray }) := S1'.grow fun _ _ e => Heap.get?_push_of_some _ e
  have hle2 : Le h' (h'.push { cls := .type "list", data := .seq ([] : List Value).toArray }) := fun _ _ e => Heap.get?_push_of_some _ e
  generalize h'.push { cls := .type "list", data := .seq ([] : List Value).toArray } = h2 at hd1 S2 hle2
  refine wpAny_newFunctionEnv hcell (fun _ hb => nomatch hb) (fun h3 hns hsb => ?_) (hk := hkind)
  have hCf := S2.fresh (get_size_none h2)
  generalize hC : h2.objs.size = C at hCf hns hsb
  have hCn : h2.get? C = none := by rw [← hC]; exact get_size_none _
  have hle3 : Le h2 h3 := fun b o e => (hsb.2 b (fun q => by rw [q, hCn] at e; cases e)).trans (Heap.get?_push_of_some _ e)
  have hDC : D ≠ C := fun q => by
    obtain ⟨o, ho, _⟩ := hd1
    rw [q, hCn] at ho; cases ho
  have S3 : St w G L P1' N1 m1 h3 := S2.grow hle3
  -- the invariant of the loop
  let J : Nat → Shared → Prop := fun k s' => X2 fun h' tk => s' = { s with heap := h', toks := tk } ∧ X4 fun i ys N mc => A12 (i ≤ n) (k = n - i) (ys.length ≤ i) (St w G L P1' N m1 h') (Inv i ys N) (Sw i h') ((∀ b ∈ fp, b ≠ L ∧ b ∉ N.map (·.1) ∧ ∃ o, h'.get? b = some o)) (Has h' D (lst ys)) (D ∉ N.map (·.1)) (h'.Ns C (lk mc)) (C ∉ N.map (·.1)) ((mc = [] ∨ ∃ u, mc = [(x, some u)]))
  have hfpD : ∀ b ∈ fp, b ≠ D ∧ b ≠ C := fun b hb => by
    obtain ⟨_, _, o, ho⟩ := hfp b hb
    exact ⟨fun q => by rw [q, hDn] at ho; (nomatch ho), fun q => by have := hle2 b o ho; rw [q, hCn] at this; (nomatch this)⟩
  have hwrf := W.sub
  have start : J n { s with heap := h3, toks := t1 } := ⟨h3, t1, rfl, 0, [], N1, [], Nat.zero_le _, rfl, Nat.le_refl _, S3, y0, W.frame _ _ _ h0 fun b hb o ho => hle3 _ _ (hle2 _ _ ho),
    fun b hb => let ⟨q1, q2, o, ho⟩ := hfp b hb; ⟨q1, q2, o, hle3 _ _ (hle2 _ _ ho)⟩, hd1.keeps hle3, hDf.2.1, hns, hCf.2.1, .inl rfl⟩
  have loop : codeAny (model prg w) A (.compLoop (.ListComp elt [⟨.Name x px, iter, ifs, 0⟩] scope pos) 0 (.ref I) (.ref D) (compEnvC scope cl C env)) (compPost (model prg w) A Nope use Qc (.ref D) C) { s with heap := h3, toks := t1 } := by
    refine codeAny_compLoop_tests (I := J) (fun k s' hJ => ?_) n start
    obtain ⟨h4, t4, rfl, i, ys, N4, mc, hin, rfl, hys, S4, inv, hsw, hf4, hd4, hd4n, hns4, hc4n, hmc⟩ := hJ
    have hf4' : ∀ b ∈ fp, b ≠ L ∧ b ∉ N4.map (·.1) := fun b hb => ⟨(hf4 b hb).1, (hf4 b hb).2.1⟩
    by_cases hi : i < n
    · refine W.item i _ _ _ hi hsw fun v h5 t5 hv hst hk => ?_
      have S5 : St w G L P1' N4 m1 h5 := S4.iter W.sub hf4' hG hP hk
      have hf5 : ∀ b ∈ fp, ∃ o, h5.get? b = some o := fun b hb => by
        by_cases q : b ∈ wr
        · exact hlive _ _ hst b q
        · obtain ⟨_, _, o, ho⟩ := hf4 b hb
          exact ⟨o, hk b o q ho⟩
      have hd5 : Has h5 D (lst ys) := let ⟨o, ho, r⟩ := hd4; ⟨o, hk _ _ (fun q => (hfpD _ (hwrf _ q)).1 rfl) ho, r⟩
      have hns5 : h5.Ns C (lk mc) := let ⟨o, es, ep, ho, r⟩ := hns4; ⟨o, es, ep, hk _ _ (fun q => (hfpD _ (hwrf _ q)).2 rfl) ho, r⟩
      -- the store of the target
      have hkl : (compEnvC scope cl C env).scope.kind = .function := hkind
      show wpAny _ A (do standAt px; bindName (compEnvC scope cl C env) x v) _ _ _
      refine wpAny_bind (wpAny_standAt ?_)
      unfold bindName
      refine wpAny_bind (wpAny_holding (wpAny_point (wpAny_bind ?_)))
      refine wpAny_storeName_local (hx C) hns5 (fun h6 hn6 hs6 => wpAny_point ?_) (by rw [hkl]; rfl)
      have hm6 : (fun y => if y = x then some v else lk mc y) = lk [(x, some v)] := by
        funext y
        rcases hmc with rfl | ⟨u, rfl⟩
        all_goals
          simp only [lk]
          by_cases q : x = y
          · subst q; simp
          · have q' : ¬ y = x := fun e => q e.symm
            simp [q, q']
      rw [hm6] at hn6
      have hk6 : ∀ b o, b ≠ C → h5.get? b = some o → h6.get? b = some o := fun b o hb e => (hs6.2 b hb).trans e
      have hLC : L ≠ C := fun q => hCf.1 q.symm
      have S6 : St w G L P1' N4 m1 h6 := ⟨S5.base, fun b o e => hk6 _ _ (fun q => by rw [q, hCf.2.2.2] at e; cases e) (S5.keep b o e), let ⟨o, es, ep, ho, r⟩ := S5.ns; ⟨o, es, ep, hk6 _ _ hLC ho, r⟩, S5.out,
        fun p hp => ⟨let ⟨o, ho, r⟩ := (S5.nw p hp).1; ⟨o, hk6 _ _ (fun q => hc4n (q ▸ List.mem_map_of_mem hp)) ho, r⟩, (S5.nw p hp).2⟩, S5.nd,
        fun p hp => ⟨let ⟨o, ho, r⟩ := (S5.ps p hp).1; ⟨o, hk6 _ _ (fun q => hCf.2.2.1 (q ▸ List.mem_map_of_mem hp)) ho, r⟩, (S5.ps p hp).2⟩⟩
      -- the frame of the comprehension
      let G' := hideAll h6 (C :: N4.map (·.1))
      have inG : ∀ b o, h6.get? b = some o → b ≠ C → b ∉ N4.map (·.1) → G'.get? b = some o := fun b o e q1 q2 => hideAll_get _ e fun q => (List.mem_cons.mp q).elim q1 q2
      have le : Le G G' := fun b o e => inG b o (S6.keep b o e) (fun q => by rw [q, hCf.2.2.2] at e; cases e) (fun q => by
        obtain ⟨p, hp, rfl⟩ := List.mem_map.mp q
        rw [(S6.nw p hp).2.2] at e; cases e)
      have S7 : St w G' C P1' N4 [(x, some v)] h6 := ⟨S6.base.keeps le, fun b o e => of_hideAll _ e, hn6, hideAll_none _ (.head _),
        fun p hp => ⟨(S6.nw p hp).1, fun q => hc4n (q ▸ List.mem_map_of_mem hp), hideAll_none _ (.tail _ (List.mem_map_of_mem hp))⟩, S6.nd,
        fun p hp => ⟨(S6.ps p hp).1, fun q => hCf.2.2.1 (q ▸ List.mem_map_of_mem hp), (S6.ps p hp).2.2⟩⟩
      have hLG : ∃ o es ep, G'.get? L = some o ∧ o.data = .dict es ep ∧ StrKeys es ∧ ∀ name, nsFind es name = lk m1 name := by
        obtain ⟨o, es, ep, ho, r⟩ := S6.ns
        exact ⟨o, es, ep, inG _ _ ho hLC (fun q => by
          obtain ⟨p, hp, e⟩ := List.mem_map.mp q
          exact (S6.nw p hp).2.1 e), r⟩
      have hDG : Has G' D (lst ys) := by
        obtain ⟨o, ho, r⟩ := hd5
        exact ⟨o, inG _ _ (hk6 _ _ hDC ho) hDC hd4n, r⟩
      have hfG : ∀ b ∈ fp, ∃ o, G'.get? b = some o ∧ h6.get? b = some o := fun b hb => by
        obtain ⟨o, ho⟩ := hf5 b hb
        have ho' := hk6 _ _ (hfpD b hb).2 ho
        exact ⟨o, inG b o ho' (hfpD b hb).2 (hf4' b hb).2, ho'⟩
      -- what stands again behind the turn
      have again : ∀ {h7 h8 : Heap} {P7 N7 : Led} {t8 : Nat} {ys' : List Value}, St w G' C P7 N7 [(x, some v)] h7 → (∀ p ∈ P1', p ∈ P7) → Inv (i + 1) ys' N7 → ys'.length ≤ i + 1 → (∀ b o, b ≠ D → h7.get? b = some o → h8.get? b = some o) → Has h8 D (lst ys') →
          ∃ k, k < n - i ∧ J k { s with heap := h8, toks := t8 } := by
        intro h7 h8 P7 N7 t8 ys' S8 hsub inv' hlen k8 hd8
        obtain ⟨oL, esL, epL, hoL, rL⟩ := hLG
        have hDN : D ∉ N7.map (·.1) := fun q => by
          obtain ⟨p, hp, e⟩ := List.mem_map.mp q
          obtain ⟨o, ho, _⟩ := hDG
          rw [← e, (S8.nw p hp).2.2] at ho; cases ho
        have hLD : L ≠ D := fun q => hDf.1 q.symm
        refine ⟨n - (i + 1), by omega, h8, t8, rfl, i + 1, ys', N7, _, hi, rfl, hlen, ?_, inv', ?_, fun b hb => ?_, hd8, hDN, ?_, fun q => ?_, .inr ⟨v, rfl⟩⟩
        · refine ⟨S6.base, fun b o e => k8 _ _ (fun q => by rw [q, hDf.2.2.2] at e; cases e) (S8.keep _ _ (le _ _ e)), ⟨oL, esL, epL, k8 _ _ hLD (S8.keep _ _ hoL), rL⟩, S6.out, fun p hp => ⟨?_, fun q => ?_, none_of_keep le (S8.nw p hp).2.2⟩, S8.nd, fun p hp => ⟨?_, (S6.ps p hp).2.1, (S8.ps p (hsub p hp)).2.2⟩⟩
          · obtain ⟨o, ho, r⟩ := (S8.nw p hp).1
            exact ⟨o, k8 _ _ (fun q => hDN (q ▸ List.mem_map_of_mem hp)) ho, r⟩
          · have := (S8.nw p hp).2.2
            rw [q, hoL] at this; cases this
          · obtain ⟨o, ho, r⟩ := (S8.ps p (hsub p hp)).1
            exact ⟨o, k8 _ _ (fun q => hDf.2.2.1 (q ▸ List.mem_map_of_mem hp)) ho, r⟩
        · refine W.frame _ _ _ (W.frame _ _ _ hst fun b hb o ho => hk6 _ _ (hfpD b hb).2 ho) fun b hb o ho => ?_
          obtain ⟨o', q1, q2⟩ := hfG b hb
          rw [ho] at q2; cases q2
          exact k8 _ _ (hfpD b hb).1 (S8.keep _ _ q1)
        · obtain ⟨o', q1, q2⟩ := hfG b hb
          refine ⟨(hf4' b hb).1, fun q => ?_, o', k8 _ _ (hfpD b hb).1 (S8.keep _ _ q1)⟩
          obtain ⟨p, hp, rfl⟩ := List.mem_map.mp q
          rw [(S8.nw p hp).2.2] at q1; cases q1
        · obtain ⟨o, es, ep, ho, r⟩ := S8.ns
          exact ⟨o, es, ep, k8 _ _ (Ne.symm hDC) ho, r⟩
        · obtain ⟨p, hp, e⟩ := List.mem_map.mp q
          exact (S8.nw p hp).2.1 e
      refine (turn G' le C i v ys N4 hi hv inv hys).go (s := { s with heap := h6, toks := t5 + 1 }) R S7 fun ok h7 t7 P7 N7 m7 S8 y8 => ?_
      cases ok with
      | false =>
        obtain ⟨a1, rfl, a3⟩ := y8.2 rfl
        simp only [Bool.false_eq_true, if_false]
        exact again S8 a1 a3 (by omega) (fun _ _ _ e => e) (hDG.keeps S8.keep)
      | true =>
        simp only [if_true]
        refine (y8.1 rfl).go (s := { s with heap := h7, toks := t7 }) R S8 fun y h8 t8 P8 N8 m8 S9 y9 => ?_
        obtain ⟨a1, rfl, a3⟩ := y9
        refine append_raw (s := { s with heap := h8, toks := t8 }) (hDG.keeps S9.keep) (fun h9 hl9 hs9 => ?_) (by omega)
        exact again S9 a1 a3 (by rw [List.length_append]; simp; omega) (fun b o hb e => (hs9.2 b hb).trans e) hl9
    · have : i = n := by omega
      subst this
      refine W.done _ _ _ hsw fun h5 t5 hk => ?_
      have S5 : St w G L P1' N4 m1 h5 := S4.iter W.sub hf4' hG hP hk
      have hd5 : Has h5 D (lst ys) := let ⟨o, ho, r⟩ := hd4; ⟨o, hk _ _ (fun q => (hfpD _ (hwrf _ q)).1 rfl) ho, r⟩
      have hns5 : h5.Ns C (lk mc) := let ⟨o, es, ep, ho, r⟩ := hns4; ⟨o, es, ep, hk _ _ (fun q => (hfpD _ (hwrf _ q)).2 rfl) ho, r⟩
      exact fin _ _ _ _ _ _ _ _ ⟨S5, hd5, hns5, hDf.1, hDf.2.2.1, hDf.2.2.2, hd4n, hCf.1, hCf.2.2.1, hCf.2.2.2, hc4n, hDC⟩ (done _ _ _ inv hys)
  have loop' : codeAny (model prg w) A (.compStart (.ListComp elt [⟨.Name x px, iter, ifs, 0⟩] scope pos) 0 (.ref I) (.ref D) (compEnvC scope cl C env)) (compPost (model prg w) A Nope use Qc (.ref D) C) { s with heap := h3, toks := t1 } :=
    codeAny_compStart_list loop (W.self 0 _ _ _ (W.frame _ _ _ h0 fun b hb o ho => hle3 _ _ (hle2 _ _ ho)) loop)
  exact loop'
theorem W_ListCompG {elt iter : Expr} {x : Str} {px : Pos} {ifs : List Expr} {scope : Scope} {pos : Pos} {cl : List (Str × Addr)}
    (hiter : W w G L d (eval iter env) P N m (CompPost w G d x elt ifs (fun C => compEnvC scope cl C env) (fun r ys P1 N => Q (.ref r) P1 ((r, lst ys) :: N) m) m))
    (hclos : closureFor scope env = pure cl := by rfl) (hs : ∀ x, foldedSetIterable iter env x = pure x := by intro _; rfl) (hkind : scope.kind = .function := by rfl)
    (hnames : ∀ x ∈ scope.names, x.2 = .local → scope.names.lookup x.1 = some .local := by decide) (hcell : ∀ x ∈ scope.names, x.2 ≠ .cell := by decide) (hx : ∀ C, (compEnvC scope cl C env).kindOf x = some .local := by intro _; rfl) :
    W w G L d (eval (.ListComp elt [⟨.Name x px, iter, ifs, 0⟩] scope pos) env) P N m Q := by
  refine W.mk fun A s R S => ?_
  rw [arm_eval_ListComp]
  exact comp_core hiter R S (fun D C h5 t5 P1 N4 ys mc x q => ⟨_, (let ⟨_, _, z, _, _, _, _, _, _, _, _, _⟩ := x; z), fun h6 hs6 => Done.here (tk := t5) (x.end hs6) q⟩) hclos hs hkind hnames hcell hx
theorem W_AssignComp {elt iter : Expr} {x y₀ : Str} {px py : Pos} {spos : Pos} {QF : Flow → Led → Led → Vars → Prop} {ifs : List Expr} {scope : Scope} {pos : Pos} {cl : List (Str × Addr)}
    (hiter : W w G L d (eval iter env) P N m (CompPost w G d x elt ifs (fun C => compEnvC scope cl C env) (fun r ys P1 N => QF .next P1 ((r, lst ys) :: N) (stv m y₀ (.ref r))) m))
    (hsw : swapsWith (.ListComp elt [⟨.Name x px, iter, ifs, 0⟩] scope pos) (some (.Name y₀ py)) spos.line env = pure true := by rfl)
    (hy : env.kindOf y₀ = some .local := by rfl) (hyk : env.scope.kind = .function := by rfl) (hyL : env.locals = L := by rfl)
    (hclos : closureFor scope env = pure cl := by rfl) (hs : ∀ x, foldedSetIterable iter env x = pure x := by intro _; rfl) (hkind : scope.kind = .function := by rfl)
    (hnames : ∀ x ∈ scope.names, x.2 = .local → scope.names.lookup x.1 = some .local := by decide) (hcell : ∀ x ∈ scope.names, x.2 ≠ .cell := by decide) (hx : ∀ C, (compEnvC scope cl C env).kindOf x = some .local := by intro _; rfl) :
    W w G L d (exec (.Assign [.Name y₀ py] (.ListComp elt [⟨.Name x px, iter, ifs, 0⟩] scope pos) spos) env) P N m QF := by
  refine W.mk fun A s R S => ?_
  rw [exec_Assign_Name_used _ _ _ _ hsw]
  refine wpAny_bind (wpAny_standAt (wpAny_bind ?_))
  show wpAny _ A (do let _ ← comprehension (.ListComp elt [⟨.Name x px, iter, ifs, 0⟩] scope pos) scope env _ (newList []) false (eval iter env) (some (assign (.Name y₀ py) env))) _ _ s
  refine wpAny_bind (wpAny_mono (comp_core (use := some (assign (.Name y₀ py) env)) (Qc := fun _ s' => Done w G L s QF .next s') hiter R S (fun D C h5 t5 P1 N4 ys mc x q => ?_) hclos hs hkind hnames hcell hx) (fun _ s' hq => wpAny_pure (wpAny_pure hq)) fun _ _ e => e)
  obtain ⟨S5, hd5, hns5, hDL, hDP, hDG, hDN, hCL, hCP, hCG, hCN, hDC⟩ := x
  show wpAny _ A (assign (.Name y₀ py) env (.ref D)) _ _ _
  refine wpAny_assign_Name (wpAny_storeName_local hy (by rw [hyL]; exact S5.ns) (fun h6 hn6 hs6 => ?_) (by rw [hyk]; rfl))
  rw [hyL] at hn6 hs6
  have hns6 := hns5.sameBut hs6 hCL
  exact ⟨_, hns6, fun h7 hs7 => Done.here (tk := t5 + 1) (CompDone.end ⟨S5.set (x := y₀) (v := .ref D) hn6 hs6, (let ⟨o, ho, r⟩ := hd5; ⟨o, (hs6.2 _ hDL).trans ho, r⟩), hns6, hDL, hDP, hDG, hDN, hCL, hCP, hCG, hCN, hDC⟩ hs7) q⟩
end
end Nt
end
section
open PySem PySem.W PyProof.Rows PySem.Calls
set_option maxRecDepth 100000
set_option autoImplicit false
set_option linter.unusedVariables false
namespace Nt
/-- an instance, its dict at dx -/
noncomputable def ins (C dx : Addr) : OP := fun o => o = instObj C dx
/-- the dict of an instance: its attributes, by name -/
noncomputable def att (n : Nat) (m : Vars) : OP := fun o => X2 fun es ep => A4 (o.data = .dict es ep) (StrKeys es) ((∀ x, nsFind es x = lk m x)) (es.size ≤ n)
theorem att_new : att 0 [] (PySem.W.emptyDict) := ⟨#[], 0, rfl, fun _ h => by simp at h, fun _ => rfl, Nat.le_refl _⟩
theorem strKeys_noRef {es : Array DictEntry} (hk : StrKeys es) : es.toList.any (·.refKey) = false := by
  rw [List.any_eq_false]
  intro e he
  obtain ⟨n, t, h⟩ := hk e (Array.mem_toList_iff.mp he)
  simp [DictEntry.refKey, h]
theorem lookIn_att {n : Nat} {m : Vars} {o : Obj} (x : att n m o) (name : Str) : lookIn name o = some (lk m name) := by
  obtain ⟨es, ep, hd, hk, hm, _⟩ := x
  rw [← hm name]
  unfold lookIn nsFind findBy
  rw [hd]
  dsimp only
  rw [← Array.find?_toList]
  cases q : es.toList.find? (fun d => d.key.isStr name) with
  | some e => rfl
  | none =>
    dsimp only
    rw [strKeys_noRef hk]
    rfl
theorem isStr_dec (name : Str) (tk : Tok) (z : Str) : (Value.str name tk).isStr z = decide (z = name) := by
  show (name == z) = _
  by_cases e : z = name
  · subst e; rw [decide_eq_true rfl]; exact beq_self_eq_true z
  · rw [decide_eq_false e]; exact beq_eq_false_iff_ne.mpr (Ne.symm e)
theorem att_put {n : Nat} {m : Vars} {o : Obj} {name : Str} {hsh : Int} {tk : Tok} {v : Value} (x : att n m o) : att (n + 1) (stv m name v) (Obj.putName name hsh (.str name tk) v o) := by
  obtain ⟨es, ep, hd, hk, hm, hz⟩ := x
  obtain ⟨c, dd, dt, sl⟩ := o
  dsimp only at hd
  subst hd
  rw [Obj.putName_eq]
  unfold Obj.putNameByArray
  dsimp only
  cases q : es.findIdx? (fun e => e.key.isStr name) with
  | some i =>
    refine ⟨_, _, rfl, hk.modify i v, fun y => ?_, by rw [Array.size_modify]; omega⟩
    rw [lk_stv]
    show findBy (fun n v => v.isStr n) _ y = if y = name then some v else lk m y
    rw [findBy_modify (fun n v => v.isStr n) Value.isStr_inj es name y v i q]
    split
    · rfl
    · exact hm y
  | none =>
    refine ⟨_, _, rfl, hk.push hsh name tk v, fun y => ?_, by rw [Array.size_push]; omega⟩
    rw [lk_stv]
    show findBy (fun n v => v.isStr n) _ y = if y = name then some v else lk m y
    rw [findBy_push (fun n v => v.isStr n) es name y hsh (.str name tk) v (fun z => isStr_dec name tk z) q]
    split
    · rfl
    · exact hm y
/-- what the classes of the text must be like: by rfl -/
structure PlainCls (K : Frag) (C : Addr) : Prop where
  ga : findIn K (.ref C) "__getattribute__" = some (some (.builtin "object.__getattribute__"))
  gat : findIn K (.ref C) "__getattr__" = some none
  sa : findIn K (.ref C) "__setattr__" = some (some (.builtin "object.__setattr__"))
  hd : (clsIn K C).any (·.hasDict) = true
  po : plainOver K C = true
  mkc : makesIn K C = true
section
variable {w : World} {G : Heap} {L : Addr} {d : Nat} {P N : Led} {m : Vars} {env : Env} {Q : Value → Led → Led → Vars → Prop} {QU : Unit → Led → Led → Vars → Prop} {QF : Flow → Led → Led → Vars → Prop}
  {QM : Value × List Value → Led → Led → Vars → Prop}
theorem instAt {h : Heap} {x C dx : Addr} {od : Obj} (hx : Has h x (ins C dx)) (hd : h.get? dx = some od) : InstAt h x (instObj C dx) C (some od) := by
  obtain ⟨o, ho, rfl⟩ := hx
  exact ⟨ho, rfl, rfl, hd⟩
theorem findObj_val {K : Frag} {C : Addr} {od : Obj} {name : Str} {v : Value} (pc : PlainCls K C) (ha : findIn K (.ref C) name = some none) (hl : lookIn name od = some (some v)) : findObj K C (some od) name = some (.value v) := by
  obtain ⟨cd, hc, hd⟩ := any_some pc.hd
  unfold findObj
  rw [hc, ha]
  simp only [Option.bind_some]
  unfold PySem.W.ownOf
  rw [hd]
  simp only [if_true]
  rw [hl]
  rfl
theorem W_getAttr {x C dx : Addr} {n : Nat} {am : Vars} {name : Str} {v : Value} {expr : Bool} (pc : PlainCls (KK w) C) (hx : Rd G P N x (ins C dx)) (hd : Rd G P N dx (att n am)) (hv : lk am name = some v) (q : Q v P N m)
    (ha : findIn (KK w) (.ref C) name = some none) (hh : handedIn v = true) : W w G L d (getAttr (.ref x) name expr) P N m Q := W.mk fun A s R S => by
  obtain ⟨od, hod, hatt⟩ := S.rd hd
  exact get_value S.base'.inK (instAt (S.rd hx) hod) pc.ga (findObj_val pc ha (by rw [lookIn_att hatt, hv])) hh (Done.here S q)
noncomputable def getA (name : Str) : Value → Sem Value := fun ov => getAttr ov name true
noncomputable def setA (name : Str) : Value → Value → Sem Unit := fun v ov => setAttr ov name v
/-- reading an attribute of a name -/
theorem W_Attr {o : Expr} {name : Str} {pos : Pos} (k : W w G L d (eval o env) P N m (Kt w G L d (getA name) Q)) (hb : attributeBase o name env (eval o env) = eval o env := by rfl)
    (hl : ∀ a b, letTemporaryGo o a b = pure () := by intro _ _; rfl) : W w G L d (eval (.Attribute o name pos) env) P N m Q := by
  rw [arm_eval_Attribute, hb]
  exact W_bind (k.mono fun _ _ _ _ y => W_bind (W_standAt (W_bind (W_holding (W.mono y fun _ _ _ _ z => by rw [hl]; exact W_bind (W_pure (W_pure z)))))))
theorem W_setAttr {x C dx : Addr} {n : Nat} {am : Vars} {name : Str} {v : Value} {N' : Led} (pc : PlainCls (KK w) C) (hx : Rd G P N x (ins C dx)) (hu : Upd dx (att n am) (att (n + 1) (stv am name v)) N N') (hn : n ≤ 1000)
    (ht : takerIn (KK w) C name = some none) (q : QU () P N' m) : W w G L d (setAttr (.ref x) name v) P N m QU := W.mk fun A s R S => by
  have hX := S.base'.inK
  obtain ⟨od, hod, hatt⟩ := (S.nw _ hu.mem).1
  have hx' := S.rd hx
  have I := instAt hx' hod
  refine set_plain hX I pc.sa ?_
  refine osa_open (s := { s with toks := s.toks + 1 }) hX I pc.po ht fun b => ?_
  obtain ⟨cd, hc, hd'⟩ := any_some pc.hd
  obtain ⟨ox, hox, rfl⟩ := hx'
  have hatt' := att_put (name := name) (hsh := PyData.keyHash w.params name) (tk := s.toks + 1) (v := v) hatt
  have hfree : (Obj.putName name (PyData.keyHash w.params name) (.str name (s.toks + 1)) v od).isFreed = false := by
    obtain ⟨es, ep, hdat, _⟩ := hatt'
    exact Obj.isFreed_of_dict hdat
  have hget : (s.heap.update dx (Obj.putName name (PyData.keyHash w.params name) (.str name (s.toks + 1)) v)).get? dx = some (Obj.putName name (PyData.keyHash w.params name) (.str name (s.toks + 1)) v od) := Heap.get?_update_self _ hod hfree
  have fin : Done w G L s QU () { s with heap := s.heap.update dx (Obj.putName name (PyData.keyHash w.params name) (.str name (s.toks + 1)) v), toks := s.toks + 1 + 1 } :=
    Done.here (S.upd hu (fun b o hb e => (Heap.get?_update_other _ _ (Ne.symm hb)).trans e) ⟨_, hget, hatt'⟩) q
  refine wpAny_bind (wpAny_pure (wpAny_bind (wpAny_bind (wpAny_loadPart hox (wpAny_bind (Looks.here (s := { s with toks := s.toks + 1 }) (looks_clsIn hX hc) ?_))))))
  rw [hd']
  refine wpAny_pure (a := some dx) (wpAny_bind (wpAny_pure (wpAny_bind ?_)))
  unfold nsSet
  refine wpAny_bind (wpAny_bind (wpAny_askSetting (wpAny_pure (wpAny_bind (wpAny_mkText (wpAny_bind (wpAny_loadPart hod ?_)))))))
  obtain ⟨es, ep, hdat, hk, hm, hz⟩ := id hatt
  rw [hdat]
  dsimp only
  have c : (!es.any (·.key.isStr name) && es.any (·.refKey)) = false := by
    rw [← Array.any_toList (p := fun e : DictEntry => e.refKey), strKeys_noRef hk, Bool.and_false]
  rw [aRefKeyMayBeTheName_at, c]
  refine wpAny_updatePart hod ?_
  obtain ⟨es', ep', hdat', _, _, hz'⟩ := id hatt'
  refine wpAny_bind (wpAny_lookBehind hget (by rw [hdat']; exact pastItsLine_dict (by rw [sizeLine_eq]; omega)) ?_)
  exact wpAny_pure fin
/-- o.name = e -/
theorem W_AssignAttr {o e : Expr} {name : Str} {p pos : Pos} (k : W w G L d (eval e env) P N m (Kt2 w G L d (eval o env) (setA name) (anyQ QF)))
    (hs : swapsWithSole [.Attribute o name p] e pos.line env = pure false := by rfl) (hw : swappedStores [.Attribute o name p] e env = pure none := by rfl) : W w G L d (exec (.Assign [.Attribute o name p] e pos) env) P N m QF := W.mk fun A s R S =>
  wpAny_Assign_stores (k.go R S fun v h1 t1 P1 N1 m1 S1 y => by
    show wpAny _ A (assign (.Attribute o name p) env v) _ _ _
    show wpAny _ A (do
      let ov ← holding [v] (eval o env)
      standAt p.atName
      holding [v, ov] (setAttr ov name v)
      release [v, ov] []) _ _ _
    refine wpAny_bind (wpAny_holding (y.go (s := { s with heap := h1, toks := t1 }) R S1 fun ov h2 t2 P2 N2 m2 S2 z => wpAny_bind (wpAny_standAt (wpAny_bind (wpAny_holding (z.go (s := { s with heap := h2, toks := t2 }) R S2 fun _ h3 t3 P3 N3 m3 S3 u => ?_))))))
    exact wpAny_release' (Done.here S3 u)) hs hw
noncomputable def callM (pos : Pos) (args : List Expr) (env : Env) : Value × List Value → Sem Value := fun fm => callWith pos fm.1 fm.2 (backTo pos (starEach args env)) []
noncomputable def Kmeth (w : World) (G : Heap) (L : Addr) (d : Nat) (o : Expr) (name : Str) (env : Env) (pos : Pos) (args : List Expr) (Q : Value → Led → Led → Vars → Prop) : Value → Led → Led → Vars → Prop :=
  fun ov P N m => W w G L d (getMethod ov name (do return (← importBound o env).getD true)) P N m (Kt w G L d (callM pos args env) Q)
/-- o.name(args) on an instance of the text's own -/
theorem W_CallMeth {o : Expr} {name : Str} {ap pos : Pos} {args : List Expr} (k : W w G L d (eval o env) P N m (Kmeth w G L d o name env pos args Q))
    (hb : attributeBase o name env (eval o env) = eval o env := by rfl) (hf : methodCallForm (args.length + 0) (backTo pos (starEach args env)) [] = true := by rfl) (hp : (ap.endLine == pos.line) = true := by rfl) :
    W w G L d (eval (.Call (.Attribute o name ap) args [] pos) env) P N m Q := by
  rw [arm_eval_Call, hb]
  refine W_bind (k.mono fun ov _ _ _ y => W_bind (W_standAt ?_))
  show W w G L d (methodCall o name ap pos env ov (args.length + 0) (backTo pos (starEach args env)) []) _ _ _ Q
  unfold methodCall
  rw [hf]
  refine W_bind (W_holding ?_)
  unfold calleeOf
  rw [if_pos rfl]
  refine W.mono y fun fm _ _ _ z => ?_
  unfold methodCallPos
  rw [hp]
  simp only [Bool.not_true, Bool.false_or, if_true]
  exact W_bind (W_pure z)
theorem W_getMeth {x C dx f : Addr} {n : Nat} {am : Vars} {name : Str} {pl : Sem Bool} (pc : PlainCls (KK w) C) (hx : Rd G P N x (ins C dx)) (hd : Rd G P N dx (att n am)) (hv : lk am name = none)
    (hf : findIn (KK w) (.ref C) name = some (some (.ref f))) (ht : typeIn (KK w) (.ref f) = some (.type "function")) (q : QM (.ref f, [.ref x]) P N m) : W w G L d (getMethod (.ref x) name pl) P N m QM := W.mk fun A s R S => by
  obtain ⟨od, hod, hatt⟩ := S.rd hd
  exact method_fn S.base'.inK (instAt (S.rd hx) hod) pc.ga pc.gat hf ht (by unfold shadowIn; dsimp only; rw [lookIn_att hatt, hv]; rfl) (Done.here (tk := s.toks) S q)
theorem Room.under_make {d : Nat} {A : Around} (r : Room (d + 1) A) (C : Addr) (vs : List Value) : Room d (A.under (.builtin "type.__call__" ⟨.ref C :: vs, []⟩)) :=
  ⟨r.handled, by have := r.depth; show A.depth + 1 + d < _; omega, by have := r.units; show A.units + 1 + 10 * d + 200 < _; omega⟩
/-- C(args): an instance is made, its __init__ called -/
theorem W_new {C fI : Addr} {vs : List Value} {Pre : Addr → Addr → Heap → Prop} {Post : Addr → Addr → Heap → Value → Led → Heap → Prop} (pc : PlainCls (KK w) C) (hi : findIn (KK w) (.ref C) "__init__" = some (some (.ref fI))) (hf : typeIn (KK w) (.ref fI) = some (.type "function"))
    (C0 : ∀ x dx, Fn w d (.ref fI) (.ref x :: vs) [(dx, att 0 [])] (Pre x dx) (Post x dx)) (hpre : ∀ x dx g, St w G L ((x, ins C dx) :: P) N m g → Pre x dx g)
    (k : ∀ x dx N' v g h', G.get? x = none → x ∉ P.map (·.1) → St w G L ((x, ins C dx) :: P) N m g → (∀ b o, g.get? b = some o → h'.get? b = some o) → St w G L ((x, ins C dx) :: P) (N' ++ N) m h' → Ends [(dx, att 0 [])] N' → Post x dx g v N' h' → v = .none ∧ At w G L h' (Q (.ref x))) :
    W w G L (d + 1) (call (.ref C) vs) P N m Q := W.mk fun A s R S => by
  refine wpAny_call ?_
  obtain ⟨hh, g, dr, t, os⟩ := s
  have S' : St w G L P N m hh := S
  have hX := S'.base'.inK
  have S1 := (S'.new (get_size_none hh) (fun _ _ e => Heap.get?_push_of_some _ e) (p := att 0 []) ⟨_, Heap.get?_push_size _ rfl, att_new⟩)
  have hs1 : (hh.push PySem.W.emptyDict).objs.size = hh.objs.size + 1 := Heap.size_push ..
  have S2 := (S1.new (get_size_none (hh.push PySem.W.emptyDict)) (fun _ _ e => Heap.get?_push_of_some (instObj C hh.objs.size) e) (p := ins C hh.objs.size) ⟨_, Heap.get?_push_size _ rfl, rfl⟩)
  rw [hs1] at S2
  refine make_core (makes_of hX pc.mkc) (looks_findIn hX hi) (fun self => bind_fn hX self hf) (.inl rfl) ?_
  have hxG := (S2.nw _ (.head _)).2.2
  have hxP : hh.objs.size + 1 ∉ P.map (·.1) := fun q => by
    obtain ⟨p, hp, e⟩ := List.mem_map.mp q
    exact (S2.ps p hp).2.2 (by rw [e]; exact .head _)
  have S3 : St w G L ((hh.objs.size + 1, ins C hh.objs.size) :: P) ([(hh.objs.size, att 0 [])] ++ N) m ((hh.push PySem.W.emptyDict).push (instObj C hh.objs.size)) := S2.freeze
  have Sh := S3.hide
  refine codeAny_mono (C0 (hh.objs.size + 1) hh.objs.size (A.under _) ⟨(hh.push PySem.W.emptyDict).push (instObj C hh.objs.size), g, dr, t, os⟩ (R.under_make C vs) Sh.base' (hpre _ _ _ Sh) (fun p hp => (S3.nw p (List.mem_append_left _ hp)).1) (List.pairwise_singleton _ _)) fun r s' z => ?_
  rcases r with e | (v | _ | _ | v)
  all_goals try exact z.elim
  obtain ⟨h', tk, N', e, k1, k2, k3, k4⟩ := z
  obtain ⟨rfl, P₁, N₁, m₁, S₁, q⟩ := k _ _ N' _ _ h' hxG hxP Sh k1 (S3.unhide k1 k2 k3) k3.1 k4
  exact ⟨rfl, h', tk, e, P₁, N₁, m₁, S₁, q⟩
end
section
variable {w : World} {G : Heap} {L : Addr} {d : Nat} {P N : Led} {m : Vars} {Q : Value → Led → Led → Vars → Prop}
theorem W_newE {C fI : Addr} {vs : List Value} {Pre : Addr → Addr → Heap → Prop} {Post : Addr → Addr → Heap → Value → Led → Heap → Prop} (pc : PlainCls (KK w) C) (hi : findIn (KK w) (.ref C) "__init__" = some (some (.ref fI))) (hf : typeIn (KK w) (.ref fI) = some (.type "function"))
    (C0 : ∀ x dx, Fn w d (.ref fI) (.ref x :: vs) [(dx, att 0 [])] (Pre x dx) (Post x dx)) (hpre : ∀ x dx g, St w G L ((x, ins C dx) :: P) N m g → Pre x dx g)
    (k : ∀ x dx N' v g h', G.get? x = none → x ∉ P.map (·.1) → Post x dx g v N' h' → v = .none ∧ Q (.ref x) ((x, ins C dx) :: P) (N' ++ N) m) : W w G L (d + 1) (call (.ref C) vs) P N m Q :=
  W_new pc hi hf C0 hpre fun x dx N' v g h' h1 h2 _ _ S2 _ p => ⟨(k x dx N' v g h' h1 h2 p).1, _, _, _, S2, (k x dx N' v g h' h1 h2 p).2⟩
end
theorem cls_CodeSet (w : World) : PlainCls (KK w) 150 := ⟨rfl, rfl, rfl, rfl, rfl, rfl⟩
theorem cls_RangeMap (w : World) : PlainCls (KK w) 216 := ⟨rfl, rfl, rfl, rfl, rfl, rfl⟩
theorem cls_FoldIndex (w : World) : PlainCls (KK w) 340 := ⟨rfl, rfl, rfl, rfl, rfl, rfl⟩
theorem cls_Data (w : World) : PlainCls (KK w) 411 := ⟨rfl, rfl, rfl, rfl, rfl, rfl⟩
end Nt
end
section
open PySem PySem.W PyProof.Rows PySem.Calls
set_option maxRecDepth 100000
set_option autoImplicit false
set_option linter.unusedVariables false
namespace Nt
section
variable {α β : Type} {w : World} {G : Heap} {L : Addr} {d : Nat} {P N : Led} {m : Vars} {env : Env}
  {Q : Value → Led → Led → Vars → Prop} {QB : Bool → Led → Led → Vars → Prop} {QU : Unit → Led → Led → Vars → Prop} {QF : Flow → Led → Led → Vars → Prop} {QM : Value × List Value → Led → Led → Vars → Prop}
  {QP : List (Value × Value) → Led → Led → Vars → Prop} {QS : List Value → Led → Led → Vars → Prop}
  {K : Type} [DecidableEq K] {knd : KeyKind prg w K} {kvs : List (K × Value)} {k : K} {key : Value} {a : Addr}
noncomputable def dk {w : World} {K : Type} [DecidableEq K] (knd : KeyKind prg w K) (kvs : List (K × Value)) : OP := fun o => o.IsDictOf knd kvs
theorem Has.dictOf {h : Heap} (x : Has h a (dk knd kvs)) : h.DictOf knd a kvs := Heap.dictOf_iff.mpr x
theorem St.notMods {h : Heap} (S : St w G L P N m h) : (h.objs.size == sysModules) = false := beq_eq_false_iff_ne.mpr (Nat.ne_of_gt (modules_low S.base'.nolimit))
theorem W_inD (hkey : knd.is k key = true) (hd : Rd G P N a (dk knd kvs)) (hs : (a == sysModules) = false) (q : Q (.bool (valueAt kvs k).isSome) P N m) : W w G L d (compareOp .In key (.ref a)) P N m Q :=
  W.mk fun _ s _ S => wpAny_in_of hkey hs (S.rd hd).dictOf.mapOf (Done.here (tk := s.toks + 1) S q)
theorem W_notInD (hkey : knd.is k key = true) (hd : Rd G P N a (dk knd kvs)) (hs : (a == sysModules) = false) (q : Q (.bool (!(valueAt kvs k).isSome)) P N m) : W w G L d (compareOp .NotIn key (.ref a)) P N m Q :=
  W.mk fun _ s _ S => wpAny_notIn_of hkey hs (S.rd hd).dictOf.mapOf (Done.here (tk := s.toks + 1) S q)
theorem W_itemD {e i : Expr} {v : Value} (hkey : knd.is k key = true) (hd : Rd G P N a (dk knd kvs)) (hv : valueAt kvs k = some v) (q : Q v P N m)
    (hs : subscripted i false (.ref a) key = operate [.ref a, key] (getItem (.ref a) key) := by with_unfolding_all rfl) : W w G L d (subscriptTail e i (.ref a) key) P N m Q :=
  W.mk fun _ s _ S => tail_any (S.rd hd).dictOf.mapOf.typeIs slot_dict_getitem.lookup (wpAny_getItem_of hkey (S.rd hd).dictOf.mapOf hv (Done.here (tk := s.toks + 1) S q)) hs
theorem W_setItemD {v : Value} {N' : Led} (hkey : knd.is k key = true) (hu : Upd a (dk knd kvs) (dk knd (stored kvs k v)) N N') (hn : kvs.length ≤ 1000) (q : QU () P N' m) : W w G L d (setItem (.ref a) key v) P N m QU :=
  W.mk fun _ s _ S => wpAny_setItem_pairs hkey (S.nw _ hu.mem).1.dictOf (fun h' hd hs => Done.here (tk := s.toks + 1) (S.upd hu (fun b o hb e => (hs.2 b hb).trans e) (Heap.dictOf_iff.mp hd)) q) (by rw [sizeLine_eq]; omega)
theorem W_mGetD {pl : Sem Bool} (hd : Rd G P N a (dk knd kvs)) (q : QM (.builtin "dict.get", [.ref a]) P N m) : W w G L d (getMethod (.ref a) "get" pl) P N m QM :=
  W.mk fun _ s _ S => getMethod_builtin (S.rd hd).dictOf.mapOf.typeIs PySem.F.plainAttrs_dict PySem.F.slot_dict_get rfl (fun b e => (S.rd hd).dictOf.mapOf.noDict b e) (Done.here (tk := s.toks) S q)
theorem W_getD1 (hkey : knd.is k key = true) (hd : Rd G P N a (dk knd kvs)) (hs : (a == sysModules) = false) (q : Q ((valueAt kvs k).getD .none) P N m) : W w G L d (call (.builtin "dict.get") ([.ref a] ++ [key])) P N m Q :=
  W.mk fun _ s _ S => call_meetsIn PySem.F.slot_dict_get (S.rd hd).dictOf.mapOf.typeIs PySem.F.entry_dict_get (PySem.F.args_dict_get_2 _ _) (meets_dict_get knd a hkey hs) ⟨_, (S.rd hd).dictOf.mapOf, Done.here (tk := s.toks + 1) S q⟩
theorem W_getD2 {v : Value} (hkey : knd.is k key = true) (hd : Rd G P N a (dk knd kvs)) (hs : (a == sysModules) = false) (q : Q ((valueAt kvs k).getD v) P N m) : W w G L d (call (.builtin "dict.get") ([.ref a] ++ [key, v])) P N m Q :=
  W.mk fun _ s _ S => call_meetsIn PySem.F.slot_dict_get (S.rd hd).dictOf.mapOf.typeIs PySem.F.entry_dict_get (PySem.F.args_dict_get_3 _ _ _) (meets_dict_get_default knd a hkey hs v) ⟨_, (S.rd hd).dictOf.mapOf, Done.here (tk := s.toks + 1) S q⟩
theorem W_DictEmpty {pos : Pos} (knd : KeyKind prg w K) (q : ∀ r, (r == sysModules) = false → Q (.ref r) P ((r, dk knd []) :: N) m) : W w G L d (eval (.Dict [] [] pos) env) P N m Q :=
  W.mk fun _ s _ S => by
    have S' := S.new (get_size_none _) (fun _ _ e => Heap.get?_push_of_some ({ cls := .type "dict", data := .dict #[] } : Obj) e) (p := dk knd []) (Heap.dictOf_iff.mp ⟨_, #[], 0, Heap.get?_push_size _ rfl, ⟨rfl, rfl, rfl⟩, rfl, fun _ he => by simp at he, .nil, List.nodup_nil⟩)
    exact wpAny_Dict_empty (Done.here (tk := s.toks) S' (q _ S.notMods))
theorem W_pairsNil {pos : Pos} (q : QP [] P N m) : W w G L d (evalPairs (pairTrees [] [] env pos)) P N m QP := W.mk fun _ s _ S => pairTrees_nil_walk (Done.here (tk := s.toks) S q)
noncomputable def Kpair (w : World) (G : Heap) (L : Addr) (d : Nat) (t : Sem (List (Value × Value))) (QP : List (Value × Value) → Led → Led → Vars → Prop) (k : Value) : Value → Led → Led → Vars → Prop := fun v P N m => W w G L d t P N m (consQ QP (k, v))
noncomputable def Kpairs (w : World) (G : Heap) (L : Addr) (d : Nat) (e : Sem Value) (t : Sem (List (Value × Value))) (QP : List (Value × Value) → Led → Led → Vars → Prop) : Value → Led → Led → Vars → Prop := fun k P N m => W w G L d e P N m (Kpair w G L d t QP k)
theorem W_pairsCons {k v : Expr} {ks : List (Option Expr)} {vs : List Expr} {pos : Pos} (x : W w G L d (eval k env) P N m (Kpairs w G L d (eval v env) (evalPairs (pairTrees ks vs env pos)) QP)) :
    W w G L d (evalPairs (pairTrees (some k :: ks) (v :: vs) env pos)) P N m QP := W.mk fun A s R S =>
  pairTrees_cons_walk (x.go R S fun kv h1 t1 P1 N1 m1 S1 y => y.go (s := { s with heap := h1, toks := t1 }) R S1 fun vv h2 t2 P2 N2 m2 S2 z => wpAny_mono (W.at (s := s) z R S2) (fun _ _ y => y.cons) fun _ _ z => z)
inductive DictPost {w : World} {K : Type} [DecidableEq K] (knd : KeyKind prg w K) (r : Addr) (Q : Value → Led → Led → Vars → Prop) (vs : List (Value × Value)) (P N : Led) (m : Vars) : Prop
  | mk (kvs : List (K × Value)) (N' : Led) (c : Carries knd vs kvs) (hk : kvs.length ≤ 1000) (hu : Upd r (dk knd []) (dk knd (merged [] kvs)) N N') (q : Q (.ref r) P N' m)
theorem W_Dict {keys : List (Option Expr)} {values : List Expr} {pos : Pos} (knd : KeyKind prg w K) (x : ∀ r, (r == sysModules) = false → W w G L d (evalPairs (pairTrees keys values env pos)) P ((r, dk knd []) :: N) m (DictPost knd r Q))
    (hall : keys.all (·.isSome) = true := by rfl) (hl : keys.length = values.length := by rfl) (h0 : keys ≠ [] := by exact fun e => nomatch e) (hlen : keys.length ≤ 15 := by decide) : W w G L d (eval (.Dict keys values pos) env) P N m Q :=
  W.mk fun A s R S => by
    have S' := S.new (get_size_none _) (fun _ _ e => Heap.get?_push_of_some ({ cls := .type "dict", data := .dict #[] } : Obj) e) (p := dk knd []) (Heap.dictOf_iff.mp ⟨_, #[], 0, Heap.get?_push_size _ rfl, ⟨rfl, rfl, rfl⟩, rfl, fun _ he => by simp at he, .nil, List.nodup_nil⟩)
    refine wpAny_Dict_any hall hl h0 hlen ((x _ S.notMods).go (s := { s with heap := s.heap.push { cls := .type "dict", data := .dict #[] } }) R S' fun vs h1 t1 P1 N1 m1 S1 y => ?_)
    obtain ⟨kvs, N', c, hk, hu, q⟩ := y
    refine wpAny_storeAll (knd := knd) vs kvs [] _ _ c (S1.nw _ hu.mem).1.dictOf (by rw [sizeLine_eq, List.length_nil]; omega) fun h' hd hs => ?_
    exact Done.here (tk := t1 + vs.length) (S1.upd hu (fun b o hb e => (hs.2 b hb).trans e) (Heap.dictOf_iff.mp hd)) q
noncomputable def setI (ov : Value) : Value → Value → Sem Unit := fun v iv => setItem ov iv v
noncomputable def Kset1 (w : World) (G : Heap) (L : Addr) (d : Nat) (i : Sem Value) (QU : Unit → Led → Led → Vars → Prop) (v : Value) : Value → Led → Led → Vars → Prop := fun ov P N m => W w G L d i P N m (Kt w G L d (setI ov v) QU)
noncomputable def Kset (w : World) (G : Heap) (L : Addr) (d : Nat) (o i : Sem Value) (QU : Unit → Led → Led → Vars → Prop) : Value → Led → Led → Vars → Prop := fun v P N m => W w G L d o P N m (Kset1 w G L d i QU v)
theorem W_AssignSub {o i e : Expr} {p pos : Pos} (k : W w G L d (eval e env) P N m (Kset w G L d (eval o env) (eval i env) (anyQ QF)))
    (hs : swapsWith e (some (.Subscript o i p)) pos.line env = pure false := by rfl) : W w G L d (exec (.Assign [.Subscript o i p] e pos) env) P N m QF := W.mk fun A s R S =>
  wpAny_Assign_Subscript (k.go R S fun v h1 t1 P1 N1 m1 S1 y => y.go (s := { s with heap := h1, toks := t1 }) R S1 fun ov h2 t2 P2 N2 m2 S2 z => z.go (s := { s with heap := h2, toks := t2 }) R S2 fun iv h3 t3 P3 N3 m3 S3 u => u.go (s := { s with heap := h3, toks := t3 }) R S3 fun _ h4 t4 P4 N4 m4 S4 q => Done.here S4 q) hs
end
theorem isS (w : World) (x : Str) (t : Tok) : (strKind prg w).is x (.str x t) = true := strKind_is _ _ _ _
theorem isI (w : World) (x : Int) (t : Tok) : (intKind prg w).is x (.int x t) = true := intKind_is _ _ _ _
end Nt
end
section
open PySem PySem.W PyProof.Rows PySem.Calls
set_option maxRecDepth 100000
set_option autoImplicit false
set_option linter.unusedVariables false
namespace Nt
noncomputable def lstI (ns : List Int) : OP := fun o => ∃ vs, IntsAre vs ns ∧ lst vs o
noncomputable def tupI (ns : List Int) : OP := fun o => ∃ vs, IntsAre vs ns ∧ tup vs o
theorem lstI_nil {o : Obj} (x : lst [] o) : lstI [] o := ⟨[], .nil, x⟩
theorem seq_door {a b : Array Value} (h : a.size + b.size ≤ sizeLine) : ¬(!a.isEmpty && Builtin.List.listTooLong (a.size + b.size)) = true := extend_door h
section
variable {α β : Type} {w : World} {G : Heap} {L : Addr} {d : Nat} {P N : Led} {m : Vars} {env : Env}
  {Q : Value → Led → Led → Vars → Prop} {QB : Bool → Led → Led → Vars → Prop} {QU : Unit → Led → Led → Vars → Prop} {QF : Flow → Led → Led → Vars → Prop} {QM : Value × List Value → Led → Led → Vars → Prop}
  {QS : List Value → Led → Led → Vars → Prop}
/-- what is handed back: it is new, or it lies in the frozen heap H -/
noncomputable def New (H G h' : Heap) (r : Addr) (p : OP) : Prop := Has h' r p ∧ (G.get? r = none ∨ ∃ o, H.get? r = some o)
theorem St.pinNew {H g h' : Heap} {r : Addr} {p : OP} (S : St w G L P N m h') (S1 : St w G L P N m g) (hH : Le H G) (x : New H g h' r p) : St w G L ((r, p) :: P) N m h' := by
  rcases x.2 with q | ⟨o, q⟩
  · have f := S1.fresh q
    exact S.pin x.1 f.1 f.2.1
  · have q' := hH _ _ q
    refine S.pin x.1 (fun e => ?_) fun e => ?_
    · rw [e, S.out] at q'; cases q'
    · obtain ⟨p', hp, e⟩ := List.mem_map.mp e
      rw [← e, (S.nw p' hp).2.2] at q'; cases q'
theorem St.nimp {a : Addr} {p p' : OP} {h : Heap} (S : St w G L P ((a, p) :: N) m h) (k : ∀ o, p o → p' o) : St w G L P ((a, p') :: N) m h := by
  refine ⟨S.base, S.keep, S.ns, S.out, fun q hq => ?_, S.nd, S.ps⟩
  rcases List.mem_cons.mp hq with rfl | hq
  · obtain ⟨⟨o, ho, r⟩, z⟩ := S.nw _ (.head _)
    exact ⟨⟨o, ho, k _ r⟩, z⟩
  · exact S.nw _ (.tail _ hq)
theorem St.pimp {a : Addr} {p p' : OP} {h : Heap} (S : St w G L ((a, p) :: P) N m h) (k : ∀ o, p o → p' o) : St w G L ((a, p') :: P) N m h := by
  refine ⟨S.base, S.keep, S.ns, S.out, S.nw, S.nd, fun q hq => ?_⟩
  rcases List.mem_cons.mp hq with rfl | hq
  · obtain ⟨⟨o, ho, r⟩, z⟩ := S.ps _ (.head _)
    exact ⟨⟨o, ho, k _ r⟩, z⟩
  · exact S.ps _ (.tail _ hq)
noncomputable def Mids (Mid : Led → Led → Vars → Prop) (QF : Flow → Led → Led → Vars → Prop) : Flow → Led → Led → Vars → Prop := fun f P N m => match f with
  | .next => Mid P N m
  | f => QF f P N m
/-- a statement, then the rest, joined at one condition -/
theorem W_cut {st : Stmt} {r : List Stmt} (Mid : Led → Led → Vars → Prop) (x : W w G L d (exec st env) P N m (Mids Mid QF)) (y : ∀ P N m, Mid P N m → W w G L d (execs r env) P N m QF) : W w G L d (execs (st :: r) env) P N m QF :=
  W_cons (x.mono fun f P' N' m' q => by
    cases f with
    | next => exact y _ _ _ q
    | brk => exact q
    | cont => exact q
    | ret v => exact q)
theorem W_mL {l : Addr} {vs : List Value} {name : Str} {id : String} {pl : Sem Bool} (slot : Slot "list" name id) (hl : Rd G P N l (lst vs)) (q : QM (.builtin id, [.ref l]) P N m) (hty : typeOf (.builtin id) = pure (.type "method_descriptor") := by rfl) :
    W w G L d (getMethod (.ref l) name pl) P N m QM := W.mk fun _ s _ S =>
  getMethod_builtin (S.rd hl).isList.typeIs PySem.F.plainAttrs_list slot hty (fun b e => by injection e with e; subst e; obtain ⟨o, ho, n, rfl⟩ := S.rd hl; exact ⟨_, ho, rfl⟩) (Done.here (tk := s.toks) S q)
theorem W_extendL {l t : Addr} {vs us : List Value} {N' : Led} (hu : Upd l (lst vs) (lst (vs ++ us)) N N') (ht : Rd G P N t (lst us)) (hsz : vs.length + us.length ≤ 100000) (q : Q .none P N' m) : W w G L d (call (.builtin "list.extend") ([.ref l] ++ [.ref t])) P N m Q := W.mk fun _ s _ S => by
  obtain ⟨o, ho, n, rfl⟩ := (S.nw _ hu.mem).1
  obtain ⟨o2, ho2, n2, rfl⟩ := S.rd ht
  have hz : vs.toArray.size + us.toArray.size ≤ sizeLine := by rw [sizeLine_eq, List.size_toArray, List.size_toArray]; omega
  have fin : ∃ k, (s.heap.update l (Obj.mapSeq (· ++ us.toArray))).get? l = some (lobj (vs ++ us) k) := by
    rw [Heap.get?_update_self _ ho rfl]
    show ∃ k, some (lobjA (vs.toArray ++ us.toArray) _) = some (lobjA (vs ++ us).toArray k)
    rw [List.append_toArray]
    exact ⟨_, rfl⟩
  obtain ⟨k, fin⟩ := fin
  exact call_meets PySem.F.slot_list_extend ⟨_, ho, rfl⟩ PySem.F.entry_list_extend (PySem.F.args_list_extend_2 _ _) (PySem.AutoSeq1.list_extend_list_list_0 l vs.toArray n t us.toArray n2 (seq_door hz) (by omega) (by omega))
    ⟨ho, ho2, Done.here (tk := s.toks) (S.upd hu (fun b o hb e => ((Heap.SameBut.update ..).2 b hb).trans e) ⟨_, fin, _, rfl⟩) q⟩
theorem W_extendT {l t : Addr} {vs us : List Value} {N' : Led} (hu : Upd l (lst vs) (lst (vs ++ us)) N N') (ht : Rd G P N t (tup us)) (hsz : vs.length + us.length ≤ 100000) (q : Q .none P N' m) : W w G L d (call (.builtin "list.extend") ([.ref l] ++ [.ref t])) P N m Q := W.mk fun _ s _ S => by
  obtain ⟨o, ho, n, rfl⟩ := (S.nw _ hu.mem).1
  obtain ⟨o2, ho2, n2, rfl⟩ := S.rd ht
  have hz : vs.toArray.size + us.toArray.size ≤ sizeLine := by rw [sizeLine_eq, List.size_toArray, List.size_toArray]; omega
  have fin : ∃ k, (s.heap.update l (Obj.mapSeq (· ++ us.toArray))).get? l = some (lobj (vs ++ us) k) := by
    rw [Heap.get?_update_self _ ho rfl]
    show ∃ k, some (lobjA (vs.toArray ++ us.toArray) _) = some (lobjA (vs ++ us).toArray k)
    rw [List.append_toArray]
    exact ⟨_, rfl⟩
  obtain ⟨k, fin⟩ := fin
  exact call_meets PySem.F.slot_list_extend ⟨_, ho, rfl⟩ PySem.F.entry_list_extend (PySem.F.args_list_extend_2 _ _) (PySem.AutoSeq1.list_extend_list_tuple_0 l vs.toArray n t us.toArray n2 (seq_door hz) (by omega) (by omega))
    ⟨ho, ho2, Done.here (tk := s.toks) (S.upd hu (fun b o hb e => ((Heap.SameBut.update ..).2 b hb).trans e) ⟨_, fin, _, rfl⟩) q⟩
theorem W_pop0 {l : Addr} {v : Value} {vs : List Value} {u : Tok} {N' : Led} (hu : Upd l (lst (v :: vs)) (lst vs) N N') (hsz : vs.length ≤ 100000) (q : Q v P N' m) : W w G L d (call (.builtin "list.pop") ([.ref l] ++ [.int 0 u])) P N m Q := W.mk fun _ s _ S => by
  obtain ⟨o, ho, n, rfl⟩ := (S.nw _ hu.mem).1
  have fin : ∃ k, (s.heap.update l (Obj.mapSeq fun xs => xs.eraseIdxIfInBounds 0)).get? l = some (lobj vs k) := by
    rw [Heap.get?_update_self _ ho rfl]
    show ∃ k, some (lobjA ((v :: vs).toArray.eraseIdxIfInBounds 0) _) = some (lobjA vs.toArray k)
    have e : (v :: vs).toArray.eraseIdxIfInBounds 0 = vs.toArray := kl_erase [] vs v
    rw [e]
    exact ⟨_, rfl⟩
  obtain ⟨k, fin⟩ := fin
  exact call_meets PySem.F.slot_list_pop ⟨_, ho, rfl⟩ PySem.F.entry_list_pop (PySem.F.args_list_pop_2 _ _) (PySem.MeetsSeq.list_pop_at l (v :: vs).toArray n 0 u 0 v rfl (by unfold seqIndex?; simp) (by simp) (by rw [sizeLine_eq]; simp; omega))
    ⟨ho, Done.here (tk := s.toks) (S.upd hu (fun b o hb e => ((Heap.SameBut.update ..).2 b hb).trans e) ⟨_, fin, _, rfl⟩) q⟩
theorem W_tupleT {t : Addr} {vs : List Value} (ht : Rd G P N t (tup vs)) (q : Q (.ref t) P N m) : W w G L d (call (.type "tuple") [.ref t]) P N m Q := W.mk fun _ s _ S => call_tuple_tup (S.rd ht).isTup (Done.here (tk := s.toks) S q)
theorem W_is {a b : Value} (hp : plainIs a b = true) (q : Q (.bool (a == b)) P N m) : W w G L d (compareOp .Is a b) P N m Q := W.mk fun _ s _ S => wpAny_is_plain hp (Done.here (tk := s.toks) S q)
theorem W_isNot {a b : Value} (hp : plainIs a b = true) (q : Q (.bool (!(a == b))) P N m) : W w G L d (compareOp .IsNot a b) P N m Q := W.mk fun _ s _ S => wpAny_isNot_plain hp (Done.here (tk := s.toks) S q)
theorem W_neS {x y : Str} {t u : Tok} (q : Q (.bool (x != y)) P N m) : W w G L d (compareOp .NotEq (.str x t) (.str y u)) P N m Q := W.mk fun _ s _ S => PyProof.Rows.ne_str (Done.here (tk := s.toks) S q)
theorem W_notInL {l : Addr} {ns : List Int} {k : Int} {t : Tok} (hl : Rd G P N l (lstI ns)) (q : Q (.bool (!(ns.any (· == k)))) P N m) : W w G L d (compareOp .NotIn (.int k t) (.ref l)) P N m Q := W.mk fun _ s _ S => by
  obtain ⟨o, ho, vs, hi, r⟩ := S.rd hl
  exact notin_list_ints (Has.isList ⟨o, ho, r⟩) hi (Done.here (tk := s.toks) S q)
theorem Room.eqRoom {A : Around} (r : Room d A) : A.units + 64 < cLine := by have := r.units; omega
theorem W_eqData {a b : Value} {da db : PyData} {as bs : List Addr} (ra : ∀ h, St w G L P N m h → Reads h a da as) (rb : ∀ h, St w G L P N m h → Reads h b db bs) (ha : SeqAt.shaped da = true) (hb : SeqAt.shaped db = true) (hm : SeqAt.noMix da db = true) (q : Q (.bool (PySem.Spec.same da db)) P N m) : W w G L d (compareOp .Eq a b) P N m Q :=
  W.mk fun _ s R S => eq_dataH_same (ra _ S) (rb _ S) ha hb R.eqRoom hm (Done.here (tk := s.toks) S q)
theorem W_neData {a b : Value} {da db : PyData} {as bs : List Addr} (ra : ∀ h, St w G L P N m h → Reads h a da as) (rb : ∀ h, St w G L P N m h → Reads h b db bs) (ha : SeqAt.shaped da = true) (hb : SeqAt.shaped db = true) (hm : SeqAt.noMix da db = true) (q : Q (.bool (!PySem.Spec.same da db)) P N m) : W w G L d (compareOp .NotEq a b) P N m Q :=
  W.mk fun _ s R S => ne_dataH_same (ra _ S) (rb _ S) ha hb R.eqRoom hm (Done.here (tk := s.toks) S q)
theorem readsL {h : Heap} {a : Addr} {ns : List Int} (x : Has h a (lstI ns)) : Reads h (.ref a) (.list (ns.map PyData.int)) [a] := by
  obtain ⟨o, ho, vs, hi, r⟩ := x
  exact reads_newData (Has.isList ⟨o, ho, r⟩) (ke_carried hi)
theorem readsT {h : Heap} {a : Addr} {ns : List Int} (x : Has h a (tupI ns)) : Reads h (.ref a) (.tuple (ns.map PyData.int)) [] := by
  obtain ⟨o, ho, vs, hi, r⟩ := x
  exact reads_newDataT (Has.isTup ⟨o, ho, r⟩) (ke_carried hi)
theorem shapedT (ns : List Int) : SeqAt.shaped (.tuple (ns.map PyData.int)) = true := by simp [SeqAt.shaped, PyData.canLay0, PyData.depth, ke_canLayAll0, ke_depthAll]
theorem sameT (ns ms : List Int) : PySem.Spec.same (.tuple (ns.map PyData.int)) (.tuple (ms.map PyData.int)) = decide (ns = ms) := by
  simp only [PySem.Spec.same]; exact ke_sameAll ns ms
theorem W_eqLL {a b : Addr} {ns ms : List Int} (ha : Rd G P N a (lstI ns)) (hb : Rd G P N b (lstI ms)) (q : Q (.bool (decide (ns = ms))) P N m) : W w G L d (compareOp .Eq (.ref a) (.ref b)) P N m Q :=
  W_eqData (fun h S => readsL (S.rd ha)) (fun h S => readsL (S.rd hb)) (ke_shaped_ints _) (ke_shaped_ints _) (SeqAt.noMix_of_shape (.list .int) rfl _ _ (list_map_has fun _ => rfl) (list_map_has fun _ => rfl)) (by rw [ke_same]; exact q)
theorem W_neLL {a b : Addr} {ns ms : List Int} (ha : Rd G P N a (lstI ns)) (hb : Rd G P N b (lstI ms)) (q : Q (.bool (!decide (ns = ms))) P N m) : W w G L d (compareOp .NotEq (.ref a) (.ref b)) P N m Q :=
  W_neData (fun h S => readsL (S.rd ha)) (fun h S => readsL (S.rd hb)) (ke_shaped_ints _) (ke_shaped_ints _) (SeqAt.noMix_of_shape (.list .int) rfl _ _ (list_map_has fun _ => rfl) (list_map_has fun _ => rfl)) (by rw [ke_same]; exact q)
theorem W_eqTT {a b : Addr} {ns ms : List Int} (ha : Rd G P N a (tupI ns)) (hb : Rd G P N b (tupI ms)) (q : Q (.bool (decide (ns = ms))) P N m) : W w G L d (compareOp .Eq (.ref a) (.ref b)) P N m Q :=
  W_eqData (fun h S => readsT (S.rd ha)) (fun h S => readsT (S.rd hb)) (shapedT _) (shapedT _) (SeqAt.noMix_of_shape (.tuples .int) rfl _ _ (tuples_map_has fun _ => rfl) (tuples_map_has fun _ => rfl)) (by rw [sameT]; exact q)
theorem W_neTT {a b : Addr} {ns ms : List Int} (ha : Rd G P N a (tupI ns)) (hb : Rd G P N b (tupI ms)) (q : Q (.bool (!decide (ns = ms))) P N m) : W w G L d (compareOp .NotEq (.ref a) (.ref b)) P N m Q :=
  W_neData (fun h S => readsT (S.rd ha)) (fun h S => readsT (S.rd hb)) (shapedT _) (shapedT _) (SeqAt.noMix_of_shape (.tuples .int) rfl _ _ (tuples_map_has fun _ => rfl) (tuples_map_has fun _ => rfl)) (by rw [sameT]; exact q)
theorem W_addL {a b : Addr} {vs us : List Value} (ha : Rd G P N a (lst vs)) (hb : Rd G P N b (lst us)) (hsz : vs.length + us.length ≤ 100000) (q : ∀ r, Q (.ref r) P ((r, lst (vs ++ us)) :: N) m) : W w G L d (binaryOp .Add (.ref a) (.ref b)) P N m Q := W.mk fun _ s _ S => by
  obtain ⟨o, ho, n, rfl⟩ := S.rd ha
  obtain ⟨o2, ho2, n2, rfl⟩ := S.rd hb
  refine concat_meets ⟨_, ho, rfl⟩ ⟨_, ho2, rfl⟩ noFill_list_add seq_list_add PySem.F.slot_list_add PySem.F.entry_list_add (PySem.F.args_list_add_2 _ _) (list_addW a b vs.toArray us.toArray n n2 none none #[] #[] (by rw [sizeLine_eq, List.size_toArray, List.size_toArray]; omega)) ⟨ho, ho2, ?_⟩
  rw [List.append_toArray]
  exact Done.here (tk := s.toks) (S.new (get_size_none _) (fun _ _ e => Heap.get?_push_of_some _ e) ⟨_, Heap.get?_push_size _ rfl, _, rfl⟩) (q _)
theorem W_addT {a b : Addr} {vs us : List Value} (ha : Rd G P N a (tup vs)) (hb : Rd G P N b (tup us)) (h1 : vs ≠ []) (h2 : us ≠ []) (hsz : vs.length + us.length ≤ 100000) (q : ∀ r, G.get? r = none → Q (.ref r) ((r, tup (vs ++ us)) :: P) N m) : W w G L d (binaryOp .Add (.ref a) (.ref b)) P N m Q := W.mk fun _ s _ S => by
  obtain ⟨o, ho, n, rfl⟩ := S.rd ha
  obtain ⟨o2, ho2, n2, rfl⟩ := S.rd hb
  refine concat_meets ⟨_, ho, rfl⟩ ⟨_, ho2, rfl⟩ noFill_tuple_add seq_tuple_add PySem.F.slot_tuple_add PySem.F.entry_tuple_add (PySem.F.args_tuple_add_2 _ _) (tuple_addW2 a b vs.toArray us.toArray n n2 none none #[] #[] (by simpa using h1) (by simpa using h2) (by rw [sizeLine_eq, List.size_toArray, List.size_toArray]; omega)) ⟨ho, ho2, ?_⟩
  rw [List.append_toArray]
  exact Done.here (tk := s.toks) (St.freeze (S.new (get_size_none _) (fun _ _ e => Heap.get?_push_of_some _ e) ⟨_, Heap.get?_push_size _ rfl, _, rfl⟩)) (q _ (S.fresh (get_size_none _)).2.2.2)
end
end Nt
end
section
open PySem PySem.W PyProof.Rows PySem.Calls
set_option maxRecDepth 100000
set_option autoImplicit false
set_option linter.unusedVariables false
namespace Nt
section
variable {α β : Type} {w : World} {G : Heap} {L : Addr} {d : Nat} {P N : Led} {m : Vars} {env : Env}
  {Q : Value → Led → Led → Vars → Prop} {QB : Bool → Led → Led → Vars → Prop} {QU : Unit → Led → Led → Vars → Prop} {QF : Flow → Led → Led → Vars → Prop}
theorem keep_ext {h h' : Heap} (x : Heap.ExtBut h.objs.size h h') : Le h h' := fun b o e => x b o (Nat.ne_of_lt (Heap.lt_size e)) e
theorem W_ordNil {ts : List (Value → Sem Unit)} (q : QU () P N m) : W w G L d (assignInOrder [] []) P N m QU := W.mk fun _ s _ S => wpAny_pure (Done.here (tk := s.toks) S q)
theorem W_ordCons {t : Value → Sem Unit} {ts : List (Value → Sem Unit)} {v : Value} {vs : List Value} (x : W w G L d (t v) P N m (Kt w G L d (fun _ => assignInOrder ts vs) QU)) : W w G L d (assignInOrder (t :: ts) (v :: vs)) P N m QU := by
  show W w G L d (do holding vs (t v); assignInOrder ts vs) P N m QU
  exact W_bind (W_holding x)
/-- (a, b) as a target, of a tuple -/
theorem W_assignTup {elts : List Expr} {k : Nat} {pos : Pos} {t : Addr} {vs : List Value} (ht : Rd G P N t (tup vs)) (x : W w G L d (assignInOrder ((assignEach elts env).map (·.2)) vs) P N m QU)
    (hn : (assignEach elts env).length = vs.length := by rfl) (hstar : (assignEach elts env).findIdx? (·.1) = none := by rfl) : W w G L d (assign (.Tuple elts k pos) env (.ref t)) P N m QU := W.mk fun A s R S =>
  wpAny_assign_Tuple R.handled (S.rd ht).isTup (by rw [hn]; simp) hstar fun h' he => W.at (tk := s.toks) x R (S.grow (keep_ext he))
theorem W_AssignTup {elts : List Expr} {k : Nat} {tpos pos : Pos} {value : Expr} (x : W w G L d (eval value env) P N m (Kt w G L d (assign (.Tuple elts k tpos) env) (anyQ QF)))
    (hs : swapsWithSole [.Tuple elts k tpos] value pos.line env = pure false := by rfl) (hw : swappedStores [.Tuple elts k tpos] value env = pure none := by rfl) : W w G L d (exec (.Assign [.Tuple elts k tpos] value pos) env) P N m QF := W.mk fun A s R S =>
  Assign_Tuple (x.go R S fun v h1 t1 P1 N1 m1 S1 y => y.go (s := { s with heap := h1, toks := t1 }) R S1 fun _ h2 t2 P2 N2 m2 S2 q => Done.here S2 q) hs hw
inductive SwapPost (w : World) (G : Heap) (L : Addr) (d : Nat) (names : List Str) (env : Env) (QF : Flow → Led → Led → Vars → Prop) (v : Value) (P N : Led) (m : Vars) : Prop
  | mk (t : Addr) (vs : List Value) (e : v = .ref t) (ht : Rd G P N t (tup vs)) (hl : names.length = vs.length) (y : W w G L d (assignInOrder (names.reverse.map fun n => bindName env n) vs.reverse) P N m (anyQ QF))
inductive Swap2 (w : World) (G : Heap) (L : Addr) (d : Nat) (x y : Str) (env : Env) (QU : Unit → Led → Led → Vars → Prop) (vs : List Value) (P N : Led) (m : Vars) : Prop
  | mk (u v : Value) (e : vs = [u, v]) (q : W w G L d (storeName env y v) P N m (Kt w G L d (fun _ => storeName env x u) QU))
theorem W_Swapped {names : List Str} {elts : List Expr} {k : Nat} {tpos pos : Pos} {value : Expr} (x : W w G L d (eval value env) P N m (SwapPost w G L d names env QF))
    (hs : swapsWithSole [.Tuple elts k tpos] value pos.line env = pure false := by rfl) (hw : swappedStores [.Tuple elts k tpos] value env = pure (some names) := by rfl) : W w G L d (exec (.Assign [.Tuple elts k tpos] value pos) env) P N m QF := W.mk fun A s R S =>
  Assign_Tuple_swapped (x.go R S fun v h1 t1 P1 N1 m1 S1 y => by
    obtain ⟨t, vs, rfl, ht, hl, y⟩ := y
    rw [show names.length = vs.toArray.size by simpa using hl]
    exact unpackItems_tuple R.handled (S1.rd ht).isTup fun h' he => y.go (s := { s with heap := h', toks := t1 }) R (S1.grow (keep_ext he)) fun _ h2 t2 P2 N2 m2 S2 q => Done.here S2 q) hs hw
/-- x, y = (e, f), both names of the frame -/
theorem W_Swap2 {x y : Str} {elts es : List Expr} {k k2 : Nat} {tpos vpos pos : Pos} (X : W w G L d (spliced (backTo vpos (starEach es env))) P N m (Swap2 w G L d x y env (anyQ QF)))
    (hs : swapsWithSole [.Tuple elts k tpos] (.Tuple es k2 vpos) pos.line env = pure false := by rfl) (hw : swappedStores [.Tuple elts k tpos] (.Tuple es k2 vpos) env = pure (some [x, y]) := by rfl) : W w G L d (exec (.Assign [.Tuple elts k tpos] (.Tuple es k2 vpos) pos) env) P N m QF :=
  W_Swapped (names := [x, y]) (W_Tuple (X.mono fun vs P' N' m' q => by
    obtain ⟨u, v, rfl, q⟩ := q
    refine W_newTuple (by rw [sizeLine_eq]; simp) fun r hr => ⟨r, [u, v], rfl, .inr (.inl (.head _)), rfl, ?_⟩
    refine W.st (P' := P') ?_ fun h S => S.subP fun p hp => .tail _ hp
    exact W_ordCons (W_bindName (q.mono fun _ _ _ _ q => W_ordCons (W_bindName (q.mono fun _ _ _ _ q => W_ordNil (ts := []) q))))))  hs hw
noncomputable def slc (l u : Value) : OP := fun o => o = { cls := .type "slice", data := .fields #[l, u, .none] }
noncomputable def SliceQ (G : Heap) (Q : Value → Led → Led → Vars → Prop) (l u : Value) (P N : Led) (m : Vars) : Prop := ∀ r, G.get? r = none → Q (.ref r) ((r, slc l u) :: P) N m
noncomputable def Kslice (w : World) (G : Heap) (L : Addr) (d : Nat) (hi : Sem Value) (Q : Value → Led → Led → Vars → Prop) : Value → Led → Led → Vars → Prop := fun l P N m => W w G L d hi P N m (SliceQ G Q l)
theorem W_SliceE {lo hi : Option Expr} {p : Pos} (k : W w G L d (evalPart lo env) P N m (Kslice w G L d (evalPart hi env) Q)) : W w G L d (eval (.Slice lo hi none p) env) P N m Q := W.mk fun A s R S =>
  wpAny_Slice (k.go R S fun l h1 t1 P1 N1 m1 S1 y => y.go (s := { s with heap := h1, toks := t1 }) R S1 fun u h2 t2 P2 N2 m2 S2 z => by
    rw [evalPart_none]
    refine wpAny_pure ?_
    have S3 := S2.new (get_size_none h2) (fun _ _ e => Heap.get?_push_of_some ({ cls := .type "slice", data := .fields #[l, u, .none] } : Obj) e) (p := slc l u) ⟨_, Heap.get?_push_size _ rfl, rfl⟩
    exact Done.here (tk := t2) S3.freeze (z _ (S2.fresh (get_size_none h2)).2.2.2))
theorem W_partNone (q : Q .none P N m) : W w G L d (evalPart none env) P N m Q := W_pure q
theorem W_partSome {e : Expr} (q : W w G L d (eval e env) P N m Q) : W w G L d (evalPart (some e) env) P N m Q := q
theorem W_sliceL {v i : Expr} {l r : Addr} {vs : List Value} {a b : Value} {lo hi : Option Int} (hl : Rd G P N l (lst vs)) (hr : Rd G P N r (slc a b)) (pa : IsPart a lo) (pb : IsPart b hi) (hsz : vs.length ≤ 100000) (q : ∀ t, Q (.ref t) P ((t, lst (slicePick vs.toArray lo hi none).toList) :: N) m)
    (hs : subscripted i false (.ref l) (.ref r) = operate [.ref r, .ref l] (getItem (.ref l) (.ref r)) := by with_unfolding_all rfl) : W w G L d (subscriptTail v i (.ref l) (.ref r)) P N m Q := W.mk fun _ s _ S => by
  obtain ⟨o, ho, rfl⟩ := S.rd hr
  refine tail_any (S.rd hl).isList.typeIs slot_list_getitem.lookup (wpAny_getItem_list_slice (S.rd hl).isList ⟨_, ho, rfl, rfl⟩ pa pb .none (by simp) ?_ (by rw [sizeLine_eq, List.size_toArray]; omega)) hs
  exact Done.here (tk := s.toks) (S.new (get_size_none _) (fun _ _ e => Heap.get?_push_of_some _ e) ⟨_, Heap.get?_push_size _ rfl, 0, by unfold lobj; rw [Array.toArray_toList]⟩) (q _)
theorem W_assignSub {o i : Expr} {p : Pos} {v : Value} (k : W w G L d (eval o env) P N m (Kt2 w G L d (eval i env) (fun ov iv => setItem ov iv v) QU))
    (hi : (match i with | .Slice _ _ none _ => false | _ => true) = true := by rfl) : W w G L d (assign (.Subscript o i p) env v) P N m QU := W.mk fun A s R S => by
  rw [assign_Subscript]
  refine wpAny_bind (wpAny_holding (k.go R S fun ov h1 t1 P1 N1 m1 S1 y => wpAny_bind (wpAny_holding (y.go (s := { s with heap := h1, toks := t1 }) R S1 fun iv h2 t2 P2 N2 m2 S2 z => wpAny_bind (wpAny_standAt (wpAny_bind (wpAny_holding (z.go (s := { s with heap := h2, toks := t2 }) R S2 fun _ h3 t3 P3 N3 m3 S3 q => ?_))))))))
  exact wpAny_release' (Done.here S3 q)
/-- l[-1] = v -/
theorem W_setLast {l : Addr} {vs : List Value} {x v : Value} {u : Tok} {N' : Led} (hz : vs.length ≤ 100000) (hu : Upd l (lst (vs ++ [x])) (lst (vs ++ [v])) N N') (q : QU () P N' m) : W w G L d (setItem (.ref l) (.int (-1) u) v) P N m QU := W.mk fun _ s _ S => by
  have hx := (S.nw _ hu.mem).1
  have hl := hx.isList
  obtain ⟨o, ho, n, rfl⟩ := hx
  unfold setItem
  try with_reducible refine wpAny_holding ?_
  refine wpAny_bind (wpAny_sequenceKey hl.typeIs (by decide) ?_)
  refine wpAny_bind (wpAny_callSpecial?_slot (name := Str.ofString "__setitem__") hl.typeIs slot_list_setitem
    (wpAny_call_entry slot_list_setitem hl.typeIs entry_list_setitem ?_ (args_list_setitem _ _ _)))
  show wpAny _ _ (Builtin.List.listSubscript? (.int (-1) u) >>= _) _ _ s
  refine wpAny_bind (wpAny_listSubscript_int (fitsIndex_neg (by decide) (by decide)) ?_)
  have hsz : (vs ++ [x]).toArray.size = vs.length + 1 := by simp
  have hidx : seqIndex? (-1) (vs ++ [x]).toArray.size = some vs.length := by
    rw [seqIndex_neg (by decide) (by rw [hsz]; omega), hsz]
    congr 1
    omega
  have hg : (vs ++ [x]).toArray[vs.length]? = some x := by simp
  show wpAny _ _ ((Builtin.List.listItems (.ref l) >>= fun xs => pure ((seqIndex? (Int.negSucc 0) xs.size).bind fun i => xs[i]?.map (i, ·))) >>= _) _ _ s
  refine wpAny_bind (wpAny_bind ?_)
  show wpAny _ _ (seqItems? (.ref l) >>= _) _ _ s
  refine wpAny_bind (wpAny_seqItems ho rfl (wpAny_pure (wpAny_pure ?_)))
  rw [show Int.negSucc 0 = -1 from rfl, hidx]
  simp only [Option.bind_some, hg, Option.map_some]
  show wpAny _ _ (setSeqItemAt l vs.length v >>= _) _ _ s
  have fin : ∃ k, (s.heap.update l (Obj.mapSeq (·.setIfInBounds vs.length v))).get? l = some (lobj (vs ++ [v]) k) := by
    rw [Heap.get?_update_self _ ho rfl]
    show ∃ k, some (lobjA ((vs ++ [x]).toArray.setIfInBounds vs.length v) _) = some (lobjA (vs ++ [v]).toArray k)
    have e : (vs ++ [x]).toArray.setIfInBounds vs.length v = (vs ++ [v]).toArray := by
      rw [List.setIfInBounds_toArray]
      congr 1
      rw [List.set_append_right _ _ (Nat.le_refl _)]
      simp
    rw [e]
    exact ⟨_, rfl⟩
  obtain ⟨k, fin⟩ := fin
  have D : Done w G L s QU () { s with heap := s.heap.update l (Obj.mapSeq (·.setIfInBounds vs.length v)) } := Done.here (tk := s.toks) (S.upd hu (fun b o hb e => ((Heap.SameBut.update ..).2 b hb).trans e) ⟨_, fin, _, rfl⟩) q
  refine wpAny_bind (wpAny_setSeqItemAt ho rfl ?_)
  first
    | exact wpAny_bind (wpAny_pure (wpAny_pure ⟨.none, rfl, wpAny_pure D⟩))
    | exact wpAny_pure ⟨.none, rfl, wpAny_pure D⟩
end
theorem Upd.app {a : Addr} {p p' : OP} {N N' : Led} (u : Upd a p p' N N') : ∀ T : Led, Upd a p p' (T ++ N) (T ++ N')
  | [] => u
  | _ :: r => .tail (u.app r)
section
variable {w : World} {G : Heap} {L : Addr} {d : Nat} {P N : Led} {m : Vars} {Q : Value → Led → Led → Vars → Prop}
/-- a tuple, onto the ledger -/
theorem W_newTupleN {vs : List Value} (hsz : vs.length ≤ sizeLine) (q : ∀ r, Q (.ref r) P ((r, tup vs) :: N) m) : W w G L d (newTuple vs) P N m Q := W.mk fun _ s _ S =>
  wpAny_newObj_type (Done.here (tk := s.toks) (S.new (get_size_none _) (fun _ _ e => Heap.get?_push_of_some _ e) ⟨_, Heap.get?_push_size _ rfl, _, rfl⟩) (q _)) (by show vs.toArray.size ≤ sizeLine; rw [List.size_toArray]; exact hsz)
end
end Nt
end
section
open PySem PySem.W PyProof.Rows PySem.Calls
set_option maxRecDepth 100000
set_option autoImplicit false
set_option linter.unusedVariables false
namespace Nt
section
variable {w : World} {G : Heap} {L : Addr} {d : Nat} {P N : Led} {m : Vars} {env : Env} {Q : Value → Led → Led → Vars → Prop}
theorem W_range1 {n : Int} {t : Tok} (q : ∀ r, G.get? r = none → Q (.ref r) ((r, rng 0 n 1) :: P) N m) : W w G L d (call (.type "range") [.int n t]) P N m Q := W.mk fun _ s _ S =>
  PySem.call_range_1 (Done.here (St.freeze (S.new (get_size_none _) (fun _ _ e => Heap.get?_push_of_some _ e) ⟨_, Heap.get?_push_size _ rfl, _, _, _, rfl⟩)) (q _ (S.fresh (get_size_none _)).2.2.2))
theorem W_range2 {a b : Int} {t u : Tok} (q : ∀ r, G.get? r = none → Q (.ref r) ((r, rng a b 1) :: P) N m) : W w G L d (call (.type "range") [.int a t, .int b u]) P N m Q := W.mk fun _ s _ S =>
  PySem.call_range_2 (Done.here (St.freeze (S.new (get_size_none _) (fun _ _ e => Heap.get?_push_of_some _ e) ⟨_, Heap.get?_push_size _ rfl, _, _, _, rfl⟩)) (q _ (S.fresh (get_size_none _)).2.2.2))
theorem W_range3 {a b c : Int} {t u v : Tok} (hc : c ≠ 0) (hp : Builtin.divisionGoesByPylong (b - a) c = false) (q : ∀ r, G.get? r = none → Q (.ref r) ((r, rng a b c) :: P) N m) : W w G L d (call (.type "range") [.int a t, .int b u, .int c v]) P N m Q := W.mk fun _ s _ S =>
  call_range_3 hc (Done.here (St.freeze (S.new (get_size_none _) (fun _ _ e => Heap.get?_push_of_some _ e) ⟨_, Heap.get?_push_size _ rfl, _, _, _, rfl⟩)) (q _ (S.fresh (get_size_none _)).2.2.2)) (.inl hp)
theorem Src.range1 {r : Addr} {a b : Int} (hl : Rp G P r (rng a b 1)) (ha : -(2 ^ 62) ≤ a) (ha' : a < 2 ^ 62) (hb : -(2 ^ 62) ≤ b) (hb' : b < 2 ^ 62) : Src w G P (.ref r) (b - a).toNat (fun i v => ∃ t, v = .int (a + i) t) := by
  have x := Src.range (w := w) hl (small_one ha ha' hb hb') (rangeSize_nat a b)
  have e : (fun (i : Nat) (v : Value) => ∃ t, v = .int (a + i * 1) t) = fun (i : Nat) (v : Value) => ∃ t, v = .int (a + i) t := by funext i v; rw [Int.mul_one]
  rw [e] at x
  exact x
theorem W_itemI {v i : Expr} {l : Addr} {ns : List Int} {k x : Int} {u : Tok} (hl : Rd G P N l (lstI ns)) (h0 : 0 ≤ k) (hx : ns[k.toNat]? = some x) (hf : k < 2 ^ 63) (q : ∀ t, Q (.int x t) P N m)
    (hs : subscripted i false (.ref l) (.int k u) = operate [.ref l, .int k u] (getItem (.ref l) (.int k u)) := by with_unfolding_all rfl) : W w G L d (subscriptTail v i (.ref l) (.int k u)) P N m Q := W.mk fun _ s _ S => by
  obtain ⟨o, ho, vs, hi, r⟩ := S.rd hl
  obtain ⟨t, ht⟩ := hi.get _ _ hx
  have hl' := Has.isList (vs := vs) ⟨o, ho, r⟩
  exact tail_any hl'.typeIs slot_list_getitem.lookup (wpAny_getItem_list hl' h0 hf (by simpa using ht) (Done.here (tk := s.toks) S (q t))) hs
/-- a part of a list of ints -/
theorem W_sliceRun {v i : Expr} {l r : Addr} {vs : List Value} {ns : List Int} {x y : Int} {a b : Tok} (hl : Rd G P N l (lst vs)) (hi : IntsAre vs ns) (hr : Rd G P N r (slc (.int x a) (.int y b))) (h0 : 0 ≤ x) (h1 : 0 ≤ y) (hsz : vs.length ≤ 100000)
    (q : ∀ t, Q (.ref t) P ((t, lstI ((ns.drop x.toNat).take (min y.toNat ns.length - x.toNat))) :: N) m) (hs : subscripted i false (.ref l) (.ref r) = operate [.ref r, .ref l] (getItem (.ref l) (.ref r)) := by with_unfolding_all rfl) : W w G L d (subscriptTail v i (.ref l) (.ref r)) P N m Q := W.mk fun A s R S =>
  (W_sliceL (Q := fun o P' N' m' => ∃ t, A4 (o = .ref t) (P' = P) (m' = m) (N' = (t, lst (slicePick vs.toArray (some x) (some y) none).toList) :: N)) hl hr (.int x a) (.int y b) hsz (fun t => ⟨t, rfl, rfl, rfl, rfl⟩) hs).go R S fun o h' tk P' N' m' S' ⟨t, e1, e2, e3, e4⟩ => by
    subst e1 e2 e3 e4
    exact Done.here (tk := tk) (S'.nimp fun o y => ⟨_, kmk_run hi h0 h1, y⟩) (q t)
end
theorem bindL_eq (k : Str → Option NameKind) : ∀ (binds : List (Str × Value)) (m : Str → Option Value), bindL k binds m = fun y => match (binds.filter fun b => k b.1 == some .local).reverse.lookup y with
    | some v => some v
    | none => m y
  | [], m => rfl
  | (n, v) :: r, m => by
    unfold bindL
    rw [bindL_eq k r]
    funext y
    rw [List.filter_cons]
    by_cases h : k n = some .local
    · have hb : (k (n, v).1 == some NameKind.local) = true := by rw [show k (n, v).1 = some .local from h]; rfl
      rw [if_pos h, if_pos hb, List.reverse_cons, List.lookup_append]
      cases (List.filter (fun b => k b.1 == some NameKind.local) r).reverse.lookup y with
      | some u => rfl
      | none =>
        rw [Option.none_or]
        dsimp only
        by_cases q : y = n
        · subst q
          rw [if_pos rfl, List.lookup_cons, beq_self_eq_true]
        · rw [if_neg q, List.lookup_cons, beq_eq_false_iff_ne.mpr q]; rfl
    · have hb : ¬ (k (n, v).1 == some NameKind.local) = true := fun e => h (eq_of_beq e)
      rw [if_neg h, if_neg hb]
theorem lk_bindL {k : Str → Option NameKind} {binds : List (Str × Value)} {names : List Str} {m₀ : Vars} (hm : m₀ = vars0 names (binds.filter fun b => k b.1 == some .local))
    (hn : ((binds.filter fun b => k b.1 == some .local).all fun b => names.contains b.1) = true) : lk m₀ = bindL k binds fun _ => none := by
  rw [hm, lk_vars0 hn, bindL_eq]
  funext y
  cases (List.filter (fun b => k b.1 == some NameKind.local) binds).reverse.lookup y <;> rfl
end Nt
end
section
open PySem PySem.W PyProof.Rows PySem.Calls
set_option maxRecDepth 100000
set_option autoImplicit false
set_option linter.unusedVariables false
namespace Nt
section
variable {α β : Type} {w : World} {G : Heap} {L : Addr} {d : Nat} {P N : Led} {m : Vars} {env : Env} {h : Heap} {Q : Value → Led → Led → Vars → Prop}
noncomputable def PostQ {α : Type} (w : World) (G : Heap) (L : Addr) (Q : α → Led → Led → Vars → Prop) : α → Led → Led → Vars → Prop := fun a P' N' m' => ∀ h, St w G L P' N' m' h → At w G L h (Q a)
theorem W.post {t : Sem α} {Q : α → Led → Led → Vars → Prop} (x : W w G L d t P N m (PostQ w G L Q)) : W w G L d t P N m Q := W.mk fun A s R S =>
  x.go R S fun a h' tk P' N' m' S' q => let ⟨_, _, _, S2, q2⟩ := q h' S'; Done.here (tk := tk) S2 q2
theorem Upd.id {a : Addr} {p p' : OP} {N N' : Led} (u : Upd a p p' N N') (S : St w G L P N m h) (k : Has h a p → Has h a p') : St w G L P N' m h :=
  S.upd u (fun _ _ _ e => e) (k (S.nw _ u.mem).1)
/-- open what is hidden in an entry -/
theorem W.opn {t : Sem α} {Q : α → Led → Led → Vars → Prop} {a : Addr} {p : OP} {p' : β → OP} {F : β → Prop} {N' : β → Led} (hm : (a, p) ∈ N) (ho : ∀ o, p o → ∃ x, F x ∧ p' x o) (hu : ∀ x, Upd a p (p' x) N (N' x)) (k : ∀ x, F x → W w G L d t P (N' x) m Q) : W w G L d t P N m Q := W.mk fun A s R S => by
  obtain ⟨o, hg, hp⟩ := (S.nw _ hm).1
  obtain ⟨x, hF, hx⟩ := ho o hp
  exact (k x hF).run A s R ((hu x).id S fun _ => ⟨o, hg, hx⟩)
theorem W.opnI {t : Sem α} {Q : α → Led → Led → Vars → Prop} {a : Addr} {ns : List Int} {N' : List Value → Led} (hm : (a, lstI ns) ∈ N) (hu : ∀ vs, Upd a (lstI ns) (lst vs) N (N' vs)) (k : ∀ vs, IntsAre vs ns → W w G L d t P (N' vs) m Q) : W w G L d t P N m Q :=
  W.opn hm (fun o ⟨vs, a, b⟩ => ⟨vs, a, b⟩) hu k
theorem St.cls {a : Addr} {p p' : OP} {N' : Led} (S : St w G L P N m h) (hu : Upd a p p' N N') (ho : ∀ o, p o → p' o) : St w G L P N' m h := hu.id S fun ⟨o, hg, hp⟩ => ⟨o, hg, ho o hp⟩
/-- weaken an entry -/
theorem W.cls {t : Sem α} {Q : α → Led → Led → Vars → Prop} {a : Addr} {p p' : OP} {N' : Led} (hu : Upd a p p' N N') (ho : ∀ o, p o → p' o) (k : W w G L d t P N' m Q) : W w G L d t P N m Q := W.mk fun A s R S =>
  k.run A s R (hu.id S fun ⟨o, hg, hp⟩ => ⟨o, hg, ho o hp⟩)
theorem W.clsI {t : Sem α} {Q : α → Led → Led → Vars → Prop} {a : Addr} {ns : List Int} {vs : List Value} {N' : Led} (hu : Upd a (lst vs) (lstI ns) N N') (hi : IntsAre vs ns) (k : W w G L d t P N' m Q) : W w G L d t P N m Q :=
  W.cls hu (fun o y => ⟨vs, hi, y⟩) k
theorem St.thaw {a : Addr} {p : OP} (S : St w G L ((a, p) :: P) N m h) (e : G.get? a = none) (hP : a ∉ P.map (·.1)) : St w G L P ((a, p) :: N) m h := by
  have z := S.ps _ (.head _)
  refine ⟨S.base, S.keep, S.ns, S.out, fun q hq => ?_, List.nodup_cons.mpr ⟨z.2.2, S.nd⟩, fun q hq => ?_⟩
  · rcases List.mem_cons.mp hq with rfl | hq
    · exact ⟨z.1, z.2.1, e⟩
    · exact S.nw _ hq
  · have y := S.ps _ (.tail _ hq)
    exact ⟨y.1, y.2.1, fun hm => (List.mem_cons.mp hm).elim (fun e => hP ((show q.1 = a from e) ▸ List.mem_map_of_mem hq)) y.2.2⟩
theorem St.freezeAll : ∀ {R P N : Led}, St w G L P (R ++ N) m h → St w G L (R.reverse ++ P) N m h
  | [], _, _, S => S
  | q :: R, P, N, S => by
    have := (St.freezeAll (R := R) (P := q :: P) (N := N) (St.freeze S))
    rwa [List.reverse_cons, List.append_assoc]
/-- a call, what it changes anywhere on the ledger -/
theorem W_callP {f : Value} {vs : List Value} {N0 R : Led} {Pre : Heap → Prop} {Post : Heap → Value → Led → Heap → Prop} (C : Fn w d f vs N0 Pre Post) (hp : N.Perm (N0 ++ R)) (hpre : ∀ g, St w G L P R m g → Pre g)
    (k : ∀ v N' g h', St w G L P R m g → (∀ b o, g.get? b = some o → h'.get? b = some o) → St w G L P (N' ++ R) m h' → Ends N0 N' → Post g v N' h' → At w G L h' (Q v)) :
    W w G L d (call f vs) P N m Q := W.st (W_call C hpre k) fun h S => S.perm hp
theorem W_callPE {f : Value} {vs : List Value} {N0 R : Led} {Pre : Heap → Prop} {Post : Heap → Value → Led → Heap → Prop} (C : Fn w d f vs N0 Pre Post) (hp : N.Perm (N0 ++ R)) (hpre : ∀ g, (∀ b o, G.get? b = some o → g.get? b = some o) → Pre g)
    (k : ∀ v N' g h', Post g v N' h' → Q v P (N' ++ R) m) : W w G L d (call f vs) P N m Q := W.st (W_callE C hpre k) fun h S => S.perm hp
theorem W_callPES {f : Value} {vs : List Value} {N0 R : Led} {Pre : Heap → Prop} {Post : Heap → Value → Led → Heap → Prop} (C : Fn w d f vs N0 Pre Post) (hp : N.Perm (N0 ++ R)) (hpre : ∀ g, St w G L P R m g → Pre g)
    (k : ∀ v N' g h', Post g v N' h' → Q v P (N' ++ R) m) : W w G L d (call f vs) P N m Q := W.st (W_callES C hpre k) fun h S => S.perm hp
theorem W_intI {n : Int} {u : Tok} (q : Q (.int n u) P N m) : W w G L d (call (.type "int") [.int n u]) P N m Q := W.mk fun _ s _ S => call_int_int (Done.here (tk := s.toks) S q)
end
end Nt
end
section
open PySem PySem.W PyProof.Rows PySem.Calls
set_option maxRecDepth 100000
set_option autoImplicit false
set_option linter.unusedVariables false
namespace Nt
section
variable {w : World} {A : Around} {E : Value → Shared → Prop} {s : Shared} {K : Type} [DecidableEq K] {knd : KeyKind prg w K}
theorem dict_eq_none_call {a : Addr} {f : K → Option Value} {Q : Value → Shared → Prop} (da : s.heap.MapOf knd a f) (h : Q .notImplemented s) : wpAny (model prg w) A (call (.builtin "dict.__eq__") [.ref a, .none]) Q E s := by
  refine wpAny_call_entry PySem.F.slot_dict_eq da.typeIs PySem.F.entry_dict_eq ?_ (PySem.F.args_dict_eq_2 _ _)
  show wpAny _ _ (Builtin.Dict.dictSlotArgs "__eq__" ⟨[.ref a, .none], []⟩ >>= _) _ _ s
  refine wpAny_bind ?_
  unfold Builtin.Dict.dictSlotArgs
  refine wpAny_bind (wpAny_notOrdered_dict da.typeIs ?_)
  show wpAny _ _ (pure (Value.ref a, Value.none)) _ _ s
  refine wpAny_pure ?_
  refine wpAny_bind (wpAny_isInstance (T := "NoneType") (b := false) rfl PySem.F.sub_NoneType_dict ?_)
  simp only [Bool.not_false, if_true]
  exact wpAny_bind (wpAny_rule (wpAny_pure ⟨_, rfl, h⟩))
end
section
variable {w : World} {G : Heap} {L : Addr} {d : Nat} {P N : Led} {m : Vars} {env : Env} {Q : Value → Led → Led → Vars → Prop} {K : Type} [DecidableEq K] {knd : KeyKind prg w K} {a b : Addr} {ka kb : List (K × Value)}
theorem W_eqDN (ha : Rd G P N a (dk knd ka)) (q : Q (.bool false) P N m) : W w G L d (compareOp .Eq (.ref a) .none) P N m Q := W.mk fun A s R S => by
  have da := (S.rd ha).dictOf.mapOf
  exact SeqAt.rc_eq_decline_or (k := false) da.typeIs rfl (by decide) PySem.F.sub_NoneType_dict PySem.F.slot_dict_eq PySem.F.slot_NoneType_eq_refl (fun _ hq => dict_eq_none_call da hq)
    (fun _ hq => call_gives PySem.F.slot_NoneType_eq_refl rfl PySem.F.entry_NoneType_eq (PySem.F.args_NoneType_eq_2 _ _) (SeqAt.NoneType___eq___none_ref_0 a) hq)
    (fun _ hq => wpAny_of_eq (rfl : isSame (.ref a) .none = pure false) hq) (.inr R.cl) (Done.here (tk := s.toks) S q)
theorem W_eqND (ha : Rd G P N a (dk knd ka)) (q : Q (.bool false) P N m) : W w G L d (compareOp .Eq .none (.ref a)) P N m Q := W.mk fun A s R S => by
  have da := (S.rd ha).dictOf.mapOf
  exact SeqAt.rc_eq_decline_or (k := false) rfl da.typeIs (by decide) PySem.F.sub_dict_NoneType PySem.F.slot_NoneType_eq PySem.F.slot_dict_eq_refl
    (fun _ hq => call_gives PySem.F.slot_NoneType_eq rfl PySem.F.entry_NoneType_eq (PySem.F.args_NoneType_eq_2 _ _) (SeqAt.NoneType___eq___none_ref_0 a) hq) (fun _ hq => dict_eq_none_call da hq)
    (fun _ hq => wpAny_of_eq (rfl : isSame .none (.ref a) = pure false) hq) (.inr R.cl) (Done.here (tk := s.toks) S q)
theorem W_eqNN (q : Q (.bool true) P N m) : W w G L d (compareOp .Eq .none .none) P N m Q := W.mk fun A s R S => EqNone.eq_none_none (Done.here (tk := s.toks) S q)
/-- two dicts with one entry each, of the same key, tuples of other ints -/
theorem W_eqDD1 {t u : Addr} {x : Str} {ns ms : List Int} (ha : Rd G P N a (dk (strKind prg w) [(x, .ref t)])) (hb : Rd G P N b (dk (strKind prg w) [(x, .ref u)])) (na : (a == sysModules) = false) (nb : (b == sysModules) = false)
    (ht : Rd G P N t (tupI ns)) (hu : Rd G P N u (tupI ms)) (q : Q (.bool (decide (ns = ms))) P N m) : W w G L d (compareOp .Eq (.ref a) (.ref b)) P N m Q := W.mk fun A s R S => by
  refine keq_eq (r := decide (ns = ms) && true) na nb (S.rd ha).dictOf (S.rd hb).dictOf R.cl (fun _ => ?_) ?_
  · have hv : valueAt [(x, Value.ref u)] x = some (.ref u) := by unfold valueAt; simp
    refine .hit hv ?_ .nil
    have := keq_at (s := s) (A := A) (readsT (S.rd ht)) (readsT (S.rd hu)) (shapedT _) (shapedT _) (by have := R.units; show A.units + 1 + 64 < _; omega)
    rwa [← SeqAt.same_eq_eqv _ _ (SeqAt.noMix_of_shape (.tuples .int) rfl _ _ (tuples_map_has fun _ => rfl) (tuples_map_has fun _ => rfl)), sameT] at this
  · simpa using Done.here (tk := s.toks) S q
theorem W_isiNone (q : Q (.bool false) P N m) : W w G L d (call (.builtin "isinstance") [.none, .type "bool"]) P N m Q := W.mk fun A s R S => IsiPair.NoneType_bool (Done.here (tk := s.toks + 1) S q)
inductive And2Post (w : World) (G : Heap) (L : Addr) (d : Nat) (t : Sem Value) (Q : Value → Led → Led → Vars → Prop) (v : Value) (P N : Led) (m : Vars) : Prop
  | mk (b : Bool) (e : v = .bool b) (k1 : b = false → Q (.bool false) P N m) (k2 : b = true → W w G L d t P N m Q)
theorem W_And2 {x y : Expr} {pos : Pos} (k : W w G L d (eval x env) P N m (And2Post w G L d (eval y env) Q)) : W w G L d (eval (.BoolOp .And [x, y] pos) env) P N m Q := W.mk fun A s R S => by
  show wpAny _ _ (boolOp pos .And [eval x env, eval y env]) _ _ _
  unfold boolOp
  refine wpAny_bind (k.go R S fun v h1 t1 P1 N1 m1 S1 ⟨b, e, k1, k2⟩ => ?_)
  subst e
  refine wpAny_bind (wpAny_standAt (wpAny_bind (wpAny_holding (wpAny_truthy_bool ?_))))
  cases b with
  | false => exact wpAny_pure (Done.here S1 (k1 rfl))
  | true => exact W.at (k2 rfl) R S1
end
end Nt
end
section
open PySem PySem.W PyProof.Rows PySem.Calls
set_option maxRecDepth 100000
set_option autoImplicit false
set_option linter.unusedVariables false
namespace Nt
section
variable {w : World} {G : Heap} {L : Addr} {d : Nat} {P N : Led} {m : Vars} {env : Env} {Q : Value → Led → Led → Vars → Prop}
theorem W_takeL {v i : Expr} {l r : Addr} {vs : List Value} {n : Nat} {b : Tok} (hl : Rd G P N l (lst vs)) (hr : Rd G P N r (slc .none (.int n b))) (hsz : vs.length ≤ 100000) (hn : n ≤ vs.length) (q : ∀ t, Q (.ref t) P ((t, lst (vs.take n)) :: N) m)
    (hs : subscripted i false (.ref l) (.ref r) = operate [.ref r, .ref l] (getItem (.ref l) (.ref r)) := by with_unfolding_all rfl) : W w G L d (subscriptTail v i (.ref l) (.ref r)) P N m Q :=
  W_sliceL hl hr .none (.int _ _) hsz (fun t => by
    rw [slicePick_upto _ _ (by simpa using hn)]
    exact q t) hs
theorem W_dropL {v i : Expr} {l r : Addr} {vs : List Value} {n : Nat} {b : Tok} (hl : Rd G P N l (lst vs)) (hr : Rd G P N r (slc (.int n b) .none)) (hsz : vs.length ≤ 100000) (hn : n ≤ vs.length) (q : ∀ t, Q (.ref t) P ((t, lst (vs.drop n)) :: N) m)
    (hs : subscripted i false (.ref l) (.ref r) = operate [.ref r, .ref l] (getItem (.ref l) (.ref r)) := by with_unfolding_all rfl) : W w G L d (subscriptTail v i (.ref l) (.ref r)) P N m Q :=
  W_sliceL hl hr (.int _ _) .none hsz (fun t => by
    rw [slicePick_from _ _ (by simpa using hn)]
    exact q t) hs
end
theorem att_le {n n' : Nat} {m : Vars} {o : Obj} (h : n ≤ n') (x : att n m o) : att n' m o := let ⟨es, ep, a, b, c, d⟩ := x; ⟨es, ep, a, b, c, Nat.le_trans d h⟩
end Nt
end
section
open PySem PySem.W PyProof.Rows PySem.Calls
set_option maxRecDepth 100000
set_option autoImplicit false
set_option linter.unusedVariables false
namespace Nt
noncomputable def enumO (it : Addr) : OP := fun o => o = { cls := .type "enumerate", dict := none, data := .fields #[.none, .bool false, .ref it, rawInt 0, .none, .none], slots := #[] }
noncomputable def litO (l : Addr) : OP := fun o => o.cls = .type "list_iterator" ∧ o.data = .fields #[.ref l, .int 0 0]
section
variable {w : World} {G : Heap} {L : Addr} {d : Nat} {P N : Led} {m : Vars} {env : Env} {Q : Value → Led → Led → Vars → Prop} {QF : Flow → Led → Led → Vars → Prop}
theorem W_enumL {l : Addr} {vs : List Value} (hl : Rd G P N l (lst vs)) (q : ∀ e it, Q (.ref e) P ((e, enumO it) :: (it, litO l) :: N) m) : W w G L d (call (.type "enumerate") [.ref l]) P N m Q := W.mk fun A s R S =>
  call_enumerate_list (S.rd hl).isList fun h' he hi hz hk => by
    have S1 : St w G L P ((s.heap.objs.size, litO l) :: N) m h' := S.new (get_size_none _) hk (let ⟨o, ho, a, b⟩ := hi; ⟨o, ho, a, b⟩)
    have hne : s.heap.objs.size + 1 ≠ s.heap.objs.size := Nat.succ_ne_self _
    have f : s.heap.get? (s.heap.objs.size + 1) = none := by
      cases q : s.heap.get? (s.heap.objs.size + 1) with
      | none => rfl
      | some o => exact absurd (Heap.lt_size q) (Nat.not_lt.mpr (Nat.le_succ _))
    obtain ⟨f1, f2, f3, f4⟩ := S.fresh f
    refine Done.here (tk := s.toks) (P' := P) (N' := (s.heap.objs.size + 1, enumO s.heap.objs.size) :: (s.heap.objs.size, litO l) :: N) (m' := m) ⟨S1.base, S1.keep, S1.ns, S1.out, fun p hp => ?_, ?_, fun p hp => ⟨(S1.ps p hp).1, (S1.ps p hp).2.1, fun hm => ?_⟩⟩ (q _ _)
    · rcases List.mem_cons.mp hp with rfl | hp
      · exact ⟨⟨_, he, rfl⟩, f1, f4⟩
      · exact S1.nw p hp
    · rw [List.map_cons, List.nodup_cons]
      refine ⟨fun hm => ?_, S1.nd⟩
      rw [List.map_cons] at hm
      rcases List.mem_cons.mp hm with e | e
      · exact hne e
      · exact f2 e
    · rw [List.map_cons] at hm
      rcases List.mem_cons.mp hm with e | e
      · exact f3 ((show p.1 = s.heap.objs.size + 1 from e) ▸ List.mem_map_of_mem hp)
      · exact (S1.ps p hp).2.2 e
inductive EnumPost (w : World) (G : Heap) (L : Addr) (d : Nat) (elts : List Expr) (env : Env) (body : List Stmt) (QF : Flow → Led → Led → Vars → Prop) (v : Value) (P1 N' : Led) (m : Vars) : Prop
  | mk (e it l : Addr) (vs : List Value) (N1 : Led) (Inv : Nat → Led → Vars → Prop) (hv : v = .ref e) (hN : N' = (e, enumO it) :: (it, litO l) :: N1) (hl : Rp G P1 l (lst vs)) (hlN : l ∉ N1.map (·.1)) (y0 : Inv 0 N1 m)
    (turn : ∀ G', Le G G' → ∀ i v t N m, vs[i]? = some v → Inv i N m → W w G' L d (assignInOrder ((assignEach elts env).map (·.2)) [.int i t, v]) P1 N m (Kt w G' L d (fun _ => execs body env) (Turn P1 (Inv (i + 1)) QF)))
    (done : ∀ N m, Inv vs.length N m → QF .next P1 N m)
/-- for (i, v) in enumerate(l) -/
theorem W_ForEnum {elts : List Expr} {k₀ : Nat} {tp : Pos} {iter : Expr} {body : List Stmt} {pos : Pos}
    (hiter : W w G L d (eval iter env) P N m (EnumPost w G L d elts env body QF)) (hs : ∀ x, foldedSetIterable iter env x = pure x := by intro _; rfl)
    (hn : (assignEach elts env).length = 2 := by rfl) (hstar : (assignEach elts env).findIdx? (·.1) = none := by rfl) : W w G L d (exec (.For (.Tuple elts k₀ tp) iter body [] pos) env) P N m QF := by
  refine W.mk fun A s R S => ?_
  refine wpAny_For (hiter.go R S fun v h1 t1 P1' N0 m1 S0 y => ?_) hs
  obtain ⟨e, it, l, vs, N1, Inv, rfl, rfl, hl, hlN, y0, turn, done⟩ := y
  have S1 : St w G L P1' N1 m1 h1 := S0.dropN.dropN
  have he := S0.nw _ (.head _)
  have hit := S0.nw _ (.tail _ (.head _))
  have nd0 := S0.nd
  rw [List.map_cons, List.map_cons, List.nodup_cons, List.nodup_cons] at nd0
  obtain ⟨hll, hlL, hlN'⟩ := S0.rp hl
  rw [List.map_cons, List.map_cons] at hlN'
  have hei : e ≠ it := fun q => nd0.1 (q ▸ List.mem_cons_self ..)
  have hle' : l ≠ e := fun q => hlN' (q ▸ List.mem_cons_self ..)
  have hli : l ≠ it := fun q => hlN' (q ▸ List.mem_cons_of_mem _ (List.mem_cons_self ..))
  have W := WalksT.enumerate (prog := prg) (w := w) R.handled e it l hei hle' hli vs.toArray
  have hst0 : (∃ old, IsEnum h1 e it ((0 : Nat) : Int) old) ∧ h1.IsListIter it l 0 ∧ h1.IsList l vs.toArray :=
    ⟨⟨.none, let ⟨o, ho, er⟩ := he.1; by subst er; exact ho⟩, let ⟨o, ho, a, b⟩ := hit.1; ⟨o, ho, a, b⟩, hll.isList⟩
  have hsub : ∀ b ∈ [e, it], b ∈ [e, it, l] := W.sub
  have hG : ∀ b ∈ [e, it], G.get? b = none := fun b hb => by
    rcases List.mem_cons.mp hb with rfl | hb
    · exact he.2.2
    · rw [List.mem_singleton.mp hb]; exact hit.2.2
  have hP : ∀ b ∈ [e, it], ∀ p ∈ P1', p.1 ≠ b := fun b hb p hp q => by
    have := (S0.ps p hp).2.2
    rw [List.map_cons, List.map_cons] at this
    rcases List.mem_cons.mp hb with rfl | hb
    · exact this (q ▸ List.mem_cons_self ..)
    · rw [List.mem_singleton.mp hb] at q
      exact this (q ▸ List.mem_cons_of_mem _ (List.mem_cons_self ..))
  have hlive : ∀ b ∈ [e, it, l], ∃ o, h1.get? b = some o := fun b hb => by
    rcases List.mem_cons.mp hb with rfl | hb
    · exact let ⟨o, ho, _⟩ := he.1; ⟨o, ho⟩
    · rcases List.mem_cons.mp hb with rfl | hb
      · exact let ⟨o, ho, _⟩ := hit.1; ⟨o, ho⟩
      · rw [List.mem_singleton.mp hb]; exact let ⟨o, ho, _⟩ := hll; ⟨o, ho⟩
  have hoff : ∀ b ∈ [e, it, l], b ≠ L ∧ b ∉ N1.map (·.1) := fun b hb => by
    rcases List.mem_cons.mp hb with rfl | hb
    · exact ⟨he.2.1, fun q => nd0.1 (List.mem_cons_of_mem _ q)⟩
    · rcases List.mem_cons.mp hb with rfl | hb
      · exact ⟨hit.2.1, nd0.2.1⟩
      · rw [List.mem_singleton.mp hb]; exact ⟨hlL, hlN⟩
  let n := vs.length
  have hn' : vs.toArray.size = n := by simp [n]
  rw [hn'] at W
  let J : Nat → Shared → Prop := fun k s' => X2 fun h' tk => s' = { s with heap := h', toks := tk } ∧ X3 fun i N m => A6 (i ≤ n) (k = n - i) (St w G L P1' N m h') (Inv i N m) (((∃ old, IsEnum h' e it ((i : Nat) : Int) old) ∧ h'.IsListIter it l i ∧ h'.IsList l vs.toArray)) (∀ b ∈ [e, it, l], b ≠ L ∧ b ∉ N.map (·.1) ∧ ∃ o, h'.get? b = some o)
  refine W.self 0 _ _ _ hst0 ?_
  refine codeAny_forLoop_any (I := J) (fun k s' hJ => ?_) n ⟨h1, t1, rfl, 0, N1, m1, Nat.zero_le _, rfl, S1, y0, hst0, fun b hb => ⟨(hoff b hb).1, (hoff b hb).2, hlive b hb⟩⟩
  obtain ⟨h2, t2, rfl, i, N2, m2, hin, rfl, S2, inv, hsw, hf2⟩ := hJ
  have hf2' : ∀ b ∈ [e, it, l], b ≠ L ∧ b ∉ N2.map (·.1) := fun b hb => ⟨(hf2 b hb).1, (hf2 b hb).2.1⟩
  by_cases hi : i < n
  · refine W.item i _ _ _ hi hsw fun T vals h3 t3 hv hT hTt hmid hk => ?_
    obtain ⟨t, x, hx, rfl⟩ := hv
    refine W.go _ _ _ i T _ _ _ hmid fun h4 hst hk4 => ?_
    have hk' : ∀ b o, b ∉ [e, it] → h2.get? b = some o → h4.get? b = some o := fun b o hb q => hk4 b o hb (hk b o hb q)
    have S3 : St w G L P1' N2 m2 h4 := S2.iter hsub hf2' hG hP hk'
    have hTt4 : h4.IsTuple T #[.int i t, x] := let ⟨o, ho, r⟩ := hTt; ⟨o, hk4 _ _ (W.apart _ _ _ hmid) ho, r⟩
    have hf3 : ∀ b ∈ [e, it, l], ∃ o, h4.get? b = some o := fun b hb => by
      obtain ⟨⟨old, a⟩, ⟨o2, b2, _⟩, ⟨o3, b3, _⟩⟩ := hst
      rcases List.mem_cons.mp hb with rfl | hb
      · exact ⟨_, a⟩
      · rcases List.mem_cons.mp hb with rfl | hb
        · exact ⟨_, b2⟩
        · rw [List.mem_singleton.mp hb]; exact ⟨_, b3⟩
    refine wpAny_assign_Tuple R.handled hTt4 (by rw [hn]; rfl) hstar fun h5 hx5 => ?_
    have hle5 : Le h4 h5 := fun b o q => hx5 b o (Nat.ne_of_lt (Heap.lt_size q)) q
    have S5 := S3.grow hle5
    have hst5 := W.frame _ _ _ hst fun b hb o ho => hle5 b o ho
    obtain ⟨G', le, S6, hin'⟩ := S5.rebase
    refine (turn G' le i x t N2 m2 (by simpa using hx) inv).go (s := { s with heap := h5, toks := t3 }) R S6 fun _ h7 t7 P7 N7 m7 S7 y7 => ?_
    refine y7.go (s := { s with heap := h7, toks := t7 }) R S7 fun f h8 t8 P8 N8 m8 S8 y8 => ?_
    have fin : (∀ p ∈ P1', p ∈ P8) ∧ Inv (i + 1) N8 m8 → ∃ k, k < n - i ∧ J k { s with heap := h8, toks := t8 } := fun z => by
      have hfG : ∀ b ∈ [e, it, l], ∃ o, G'.get? b = some o ∧ h5.get? b = some o := fun b hb => by
        obtain ⟨o, ho⟩ := hf3 b hb
        exact ⟨o, hin' b o (hle5 _ _ ho) (hf2' b hb).1 (hf2' b hb).2, hle5 _ _ ho⟩
      refine ⟨n - (i + 1), by omega, h8, t8, rfl, i + 1, N8, m8, hi, rfl, (S8.down S5.base le).subP z.1, z.2, W.frame _ _ _ hst5 fun b hb o ho => ?_, fun b hb => ?_⟩
      · obtain ⟨o', q1, q2⟩ := hfG b hb
        rw [ho] at q2; cases q2
        exact S8.keep _ _ q1
      · obtain ⟨o', q1, q2⟩ := hfG b hb
        refine ⟨(hf2' b hb).1, fun q => ?_, o', S8.keep _ _ q1⟩
        obtain ⟨p, hp, rfl⟩ := List.mem_map.mp q
        rw [(S8.nw p hp).2.2] at q1; cases q1
    cases f with
    | next => exact fin y8
    | cont => exact fin y8
    | brk => exact ⟨h8, t8, rfl, P8, N8, m8, S8.down S5.base le, y8⟩
    | ret v => exact ⟨h8, t8, rfl, P8, N8, m8, S8.down S5.base le, y8⟩
  · have : i = n := by omega
    subst this
    refine W.done _ _ _ hsw fun h3 t3 hk => ?_
    have S3 : St w G L P1' N2 m2 h3 := S2.iter hsub hf2' hG hP hk
    exact wpAny_execs_nil ⟨h3, t3, rfl, P1', N2, m2, S3, done _ _ inv⟩
end
end Nt
end
section
open PySem PySem.W PyProof.Rows PySem.Calls
set_option maxRecDepth 100000
set_option autoImplicit false
set_option linter.unusedVariables false
namespace Nt
noncomputable abbrev TK (w : World) : HeapKind prg w (List Int) := tupleKind (intKind prg w)
noncomputable abbrev TX := List (List Int × Addr × Value)
noncomputable def hdk (w : World) (xs : TX) : OP := fun o => o.ExactDict ∧ X2 fun es ep => A3 (o.data = .dict es ep) (es.toList = xs.map (entryOfKey (TK w))) ((xs.map (·.1)).Nodup)
theorem itemsAre_ints {w : World} : ∀ {vs : List Value} {ns : List Int}, IntsAre vs ns → ItemsAre (intKind prg w) ns vs
  | _, _, .nil => .nil
  | _, _, .cons n t h => .cons (isI w n t) (itemsAre_ints h)
theorem Has.tkey {w : World} {h : Heap} {a : Addr} {ns : List Int} (x : Has h a (tupI ns)) : (TK w).is h ns a :=
  let ⟨o, ho, vs, hi, n, e⟩ := x; ⟨o, vs.toArray, n, ho, by rw [e]; rfl, by rw [e]; rfl, itemsAre_ints hi⟩
theorem dictOfH_of {w : World} {h : Heap} {d : Addr} {xs : TX} (x : Has h d (hdk w xs)) (k : ∀ y ∈ xs, Has h y.2.1 (tupI y.1)) : h.DictOfH (TK w) d xs :=
  let ⟨o, ho, hc, es, ep, hd, he, hn⟩ := x; ⟨o, es, ep, ho, hc, hd, he, fun y hy => (k y hy).tkey, hn⟩
theorem hdk_of {w : World} {h : Heap} {d : Addr} {xs : TX} (x : h.DictOfH (TK w) d xs) : Has h d (hdk w xs) :=
  let ⟨o, es, ep, ho, hc, hd, he, _, hn⟩ := x; ⟨o, ho, hc, es, ep, hd, he, hn⟩
section
variable {w : World} {A : Around} {E : Value → Shared → Prop} {s : Shared} {knd : HeapKind prg w (List Int)}
theorem setDefault_heap {d a : Addr} {xs : TX} {k : List Int} {v : Value} {Q : Value → Shared → Prop} (hu : knd.room A) (hkey : knd.is s.heap k a) (hm : s.heap.DictOfH knd d xs) (hsz : xs.length ≤ sizeLine)
    (h1 : ∀ p, atKey xs k = some p → Q p.2 { s with toks := s.toks + knd.draws k }) (h2 : atKey xs k = none → ∀ h', h'.DictOfH knd d (xs ++ [(k, a, v)]) → Heap.SameBut d s.heap h' → Q v { s with heap := h', toks := s.toks + knd.draws k }) :
    wpAny (model prg w) A (dictSetDefault d (.ref a) v) Q E s := by
  obtain ⟨o, es, ep, ho, hc, hd, he, his, hn⟩ := hm
  unfold dictSetDefault
  try with_reducible refine wpAny_holding ?_
  refine wpAny_bind (knd.pyHash hu hkey ?_)
  refine wpAny_bind (wpAny_dictFind_heap (s := { s with toks := s.toks + knd.draws k }) hu hkey ho hd he his hn ?_ ?_)
  · intro hno
    have hnot : k ∉ xs.map (·.1) := not_mem_keys_of_get hno
    refine wpAny_bind (wpAny_rule (wpAny_bind (wpAny_updateDictKeys (hz := by have e := size_of_entries he; omega) (s := { s with toks := s.toks + knd.draws k }) ho hd (wpAny_pure (h2 (atKey_none_of_get hno) _ ⟨_, _, ep + 1, Heap.get?_update_self _ ho (Obj.isFreed_of_dict (Obj.data_mapDictKeys hd _)),
      hc.mapDictKeys _, Obj.data_mapDictKeys hd _, ?_, ?_, ?_⟩ (Heap.SameBut.update ..))))))
    · simp [he, entryOfKey]
    · intro x hx
      rcases List.mem_append.mp hx with hx | hx
      · exact knd.keeps (his x hx) ho hd (Heap.SameBut.update ..)
      · simp only [List.mem_singleton] at hx
        subst hx
        exact knd.keeps hkey ho hd (Heap.SameBut.update ..)
    · rw [List.map_append, List.nodup_append]
      refine ⟨hn, by simp, ?_⟩
      intro x hx y hy
      simp only [List.map_cons, List.map_nil, List.mem_singleton] at hy
      subst hy
      exact fun e => hnot (e ▸ hx)
  · intro j p hj
    refine wpAny_bind (wpAny_dictEntries (s := { s with toks := s.toks + knd.draws k }) ho hd ?_)
    have hej : es[j]? = some (entryOfKey knd (k, p)) := by rw [entry_at he j, hj]; rfl
    rw [hej]
    exact wpAny_bind (wpAny_rule (wpAny_pure (h1 p (atKey_of_get hn hj))))
end
section
variable {w : World} {G : Heap} {L : Addr} {d : Nat} {P N : Led} {m : Vars} {env : Env} {Q : Value → Led → Led → Vars → Prop} {QM : Value × List Value → Led → Led → Vars → Prop} {a ka : Addr} {xs : TX} {k : List Int}
theorem St.tdict {h : Heap} (S : St w G L P N m h) (hd : Rd G P N a (hdk w xs)) (hk : ∀ y ∈ xs, Rd G P N y.2.1 (tupI y.1)) : h.DictOfH (TK w) a xs := dictOfH_of (S.rd hd) fun y hy => S.rd (hk y hy)
theorem W_mT {name : Str} {id : String} {pl : Sem Bool} (slot : Slot "dict" name id) (hd : Rd G P N a (hdk w xs)) (q : QM (.builtin id, [.ref a]) P N m) (hty : typeOf (.builtin id) = pure (.type "method_descriptor") := by rfl) : W w G L d (getMethod (.ref a) name pl) P N m QM :=
  W.mk fun _ s _ S => by
    obtain ⟨o, ho, hc, _⟩ := S.rd hd
    exact getMethod_builtin (T := "dict") ⟨o, ho, hc.1⟩ PySem.F.plainAttrs_dict slot hty (fun b e => by injection e with e; subst e; exact ⟨o, ho, hc.2.1⟩) (Done.here (tk := s.toks) S q)
theorem W_setdefT {v : Value} {N' : Led} (hu : Upd a (hdk w xs) (hdk w (xs ++ [(k, ka, v)])) N N') (hn : (a == sysModules) = false) (hk : ∀ y ∈ xs, Rd G P N y.2.1 (tupI y.1)) (hka : Rd G P N ka (tupI k)) (hsz : xs.length ≤ 100000)
    (q1 : ∀ p, atKey xs k = some p → Q p.2 P N m) (q2 : atKey xs k = none → Q v P N' m) : W w G L d (call (.builtin "dict.setdefault") ([.ref a] ++ [.ref ka, v])) P N m Q := W.mk fun A s R S => by
  have hm := S.tdict (.inl hu.mem) hk
  refine call_meetsIn (S := fun A R s => (TK w).room A.in1 ∧ (TK w).is s.heap k ka ∧ s.heap.DictOfH (TK w) a xs ∧ (∀ p, atKey xs k = some p → R (.ok (.ret p.2)) { s with toks := s.toks + (TK w).draws k }) ∧
      (atKey xs k = none → ∀ h', h'.DictOfH (TK w) a (xs ++ [(k, ka, v)]) → Heap.SameBut a s.heap h' → R (.ok (.ret v)) { s with heap := h', toks := s.toks + (TK w).draws k }))
    PySem.F.slot_dict_setdefault hm.typeIs PySem.F.entry_dict_setdefault (PySem.F.args_dict_setdefault_3 _ _ _) (.of_wp fun A R s ⟨hr, hki, hm, h1, h2⟩ => ?_) ⟨R.cl1, (S.rd hka).tkey, hm, fun p hp => Done.here S (q1 p hp), fun hno h' hd hs => ?_⟩
  · unfold Builtin.«dict.setdefault»
    refine wpAny_bind ?_
    unfold Builtin.Dict.keyAndDefault
    refine wpAny_bind (wpAny_notOrdered_dict hm.typeIs ?_)
    show wpAny _ _ (pure (a, Value.ref ka, some v)) _ _ s
    refine wpAny_pure ?_
    show wpAny _ _ (if (a == sysModules) = true then _ else (dictSetDefault a (.ref ka) v >>= _)) _ _ s
    rw [if_neg (by rw [hn]; exact Bool.false_ne_true)]
    exact wpAny_bind (setDefault_heap hr hki hm (by rw [sizeLine_eq]; omega) (fun p hp => wpAny_pure ⟨_, rfl, h1 p hp⟩) fun hno h' hd hs => wpAny_pure ⟨_, rfl, h2 hno h' hd hs⟩)
  · exact Done.here (S.upd hu (fun b o hb e => (hs.2 b hb).trans e) (hdk_of hd)) (q2 hno)
theorem W_getT2 {v : Value} (hd : Rd G P N a (hdk w xs)) (hn : (a == sysModules) = false) (hk : ∀ y ∈ xs, Rd G P N y.2.1 (tupI y.1)) (hka : Rd G P N ka (tupI k)) (q : Q (((atKey xs k).map (·.2)).getD v) P N m) : W w G L d (call (.builtin "dict.get") ([.ref a] ++ [.ref ka, v])) P N m Q := W.mk fun A s R S => by
  have hm := S.tdict hd hk
  exact call_meetsIn PySem.F.slot_dict_get hm.typeIs PySem.F.entry_dict_get (PySem.F.args_dict_get_3 _ _ _) (meetsH_dict_get_default (TK w) a ka hn v) ⟨R.cl1, k, xs, (S.rd hka).tkey, hm, Done.here S q⟩
theorem W_DictEmptyT {pos : Pos} (q : ∀ r, (r == sysModules) = false → Q (.ref r) P ((r, hdk w []) :: N) m) : W w G L d (eval (.Dict [] [] pos) env) P N m Q := W.mk fun _ s _ S => by
  have S' := S.new (get_size_none _) (fun _ _ e => Heap.get?_push_of_some ({ cls := .type "dict", data := .dict #[] } : Obj) e) (p := hdk w []) (hdk_of (Heap.DictOfH.new _))
  exact wpAny_Dict_empty (Done.here (tk := s.toks) S' (q _ S.notMods))
end
end Nt
end
section
open PySem PySem.W PyProof.Rows PySem.Calls
set_option maxRecDepth 100000
set_option autoImplicit false
set_option linter.unusedVariables false
namespace Nt
/-- the number of the items up to x, of a rising list -/
noncomputable def bis (ns : List Int) (x : Int) : Nat := (ns.takeWhile (· ≤ x)).length
theorem bis_eq {ns : List Int} {x : Int} {k : Nat} (hk : k ≤ ns.length) (h1 : ∀ i, i < k → ∀ y, ns[i]? = some y → y ≤ x) (h2 : ∀ y, ns[k]? = some y → x < y) : bis ns x = k := by
  induction ns generalizing k with
  | nil => have : k = 0 := by simpa using hk
           subst this; rfl
  | cons a r ih =>
    unfold bis
    cases k with
    | zero =>
      have := h2 a rfl
      rw [List.takeWhile_cons, if_neg (by simp; omega)]; rfl
    | succ j =>
      have h0 : a ≤ x := h1 0 (Nat.succ_pos _) a rfl
      rw [List.takeWhile_cons, if_pos (by simpa using h0), List.length_cons]
      have := ih (k := j) (by simpa using hk) (fun i hi y hy => h1 (i + 1) (Nat.succ_lt_succ hi) y (by simpa using hy)) (fun y hy => h2 y (by simpa using hy))
      unfold bis at this
      rw [this]
inductive I1_1 (l : Addr) (ns : List Int) (x : Int) (tx : Tok) (m : Vars) : Prop
  | mk (lo : Int) (hi : Int) (tl : Tok) (th : Tok) (mid : Option Value) (hh1 : m = ([("firsts", some (.ref l)), ("number", some (.int x tx)), ("low", some (.int lo tl)), ("high", some (.int hi th)), ("middle", mid)] : Vars)) (hh2 : 0 ≤ lo) (hh3 : lo ≤ hi) (hh4 : hi ≤ ns.length) (hh5 : (∀ i : Nat, (i : Int) < lo → ∀ y, ns[i]? = some y → y ≤ x)) (hh6 : (∀ i : Nat, hi ≤ (i : Int) → ∀ y, ns[i]? = some y → x < y))
inductive I1_2 (l : Addr) (x : Int) (tx : Tok) (m : Vars) (n : Nat) : Prop
  | mk (lo : Int) (hi : Int) (tl : Tok) (th : Tok) (mid : Option Value) (hh1 : m = ([("firsts", some (.ref l)), ("number", some (.int x tx)), ("low", some (.int lo tl)), ("high", some (.int hi th)), ("middle", mid)] : Vars)) (hh2 : n = (hi - lo).toNat)
theorem place_by_half_spec {w : World} {l : Addr} {vs : List Value} {ns : List Int} {x : Int} {tx : Tok} (hi : IntsAre vs ns) (hs : ns.Pairwise (· ≤ ·)) (hf : ns.length < 2 ^ 60) :
    Fn w 5 (.ref 28) [.ref l, .int x tx] [] (fun G => Has G l (lst vs)) (fun _ v _ _ => ∃ t, v = .int ((bis ns x : Int) - 1) t) := by
  refine Fn.of_body (names := ["firsts", "number", "low", "high", "middle"]) (m₀ := [("firsts", some (.ref l)), ("number", some (.int x tx)), ("low", none), ("high", none), ("middle", none)]) rfl rfl (fun _ _ => .of_eq rfl) rfl rfl rfl ?_
  intro G L B hG
  refine W.letE ?_
  intro en0 Qf0
  have hl : vs.length = ns.length := hi.length
  refine W_cons (W_AssignName (W_int fun t0 => W_store ?_))
  refine W_cons (W_AssignName (W_CallName (W_builtin rfl rfl (W_callWithB (W_argsCons (W_local rfl (W_argsNil (W_lenL (.inr (.inr hG)) (by omega) fun t1 => W_store ?_))))))))
  refine W_cons (W_While (fun P N m => P = [] ∧ N = [] ∧ (I1_1 l ns x tx m))
    (fun P N m n => (I1_2 l x tx m n)) ?_ ?_ ?_)
  · refine ⟨rfl, rfl, 0, ns.length, _, _, none, by rw [← hl]; rfl, by omega, by omega, by omega, fun i h => by omega, fun i h y hy => ?_⟩
    have := (List.getElem?_eq_some_iff.mp hy).1
    omega
  · rintro P N m ⟨_, _, lo, hi, tl, th, mid, rfl, _⟩
    exact ⟨_, lo, hi, tl, th, mid, rfl, rfl⟩
  · rintro P N m n ⟨rfl, rfl, lo, hi', tl, th, mid, rfl, h0, h1, h2, h3, h4⟩ ⟨_, _, _, _, _, e, rfl⟩
    cases e
    refine W_isTrueCompare (W_local rfl (W_local rfl (W_lt (W_truthyBool ⟨fun hc => ?_, fun hc => ?_⟩))))
    · have hc : lo < hi' := of_decide_eq_true hc
      refine W_cons (W_AssignName (W_BinOp (W_BinOp (W_local rfl (W_local rfl (W_add fun t2 => W_int fun t3 => W_fdiv (by decide) (PyProof.noPylong_small (by omega)) fun t4 => W_store ?_))))))
      have hm : (lo + hi').fdiv 2 = (lo + hi') / 2 := Int.fdiv_eq_ediv_of_nonneg _ (by decide)
      rw [hm]
      generalize hmid : (lo + hi') / 2 = md
      have hlt : md.toNat < ns.length := by omega
      obtain ⟨ty, hx⟩ := hi.get md.toNat ns[md.toNat] (by simp [hlt])
      refine W_cons (W_If (W_isTrueCompare (W_Subscript (W_local rfl (W_local rfl (W_itemL (.inr (.inr hG)) (by omega) hx (by omega) (W_local rfl (W_leI (W_truthyBool ⟨fun hc2 => ?_, fun hc2 => ?_⟩)))))))))
      · have hc2 : ns[md.toNat] ≤ x := of_decide_eq_true hc2
        refine W_cons (W_AssignName (W_BinOp (W_local rfl (W_int fun t5 => W_add fun t6 => W_store ?_))))
        refine W_nil ?_
        refine W_nil ⟨⟨rfl, rfl, md + 1, hi', _, _, _, rfl, by omega, by omega, by omega, fun i hi2 y hy => ?_, h4⟩, _, ?_, md + 1, hi', _, _, _, rfl, rfl⟩
        · obtain ⟨hlti, rfl⟩ := List.getElem?_eq_some_iff.mp hy
          by_cases e : i = md.toNat
          · subst e; exact hc2
          · exact Int.le_trans (List.pairwise_iff_getElem.mp hs i md.toNat hlti hlt (by omega)) hc2
        · omega
      · have hc2 : ¬ ns[md.toNat] ≤ x := of_decide_eq_false hc2
        refine W_cons (W_AssignName (W_local rfl (W_store ?_)))
        refine W_nil ?_
        refine W_nil ⟨⟨rfl, rfl, lo, md, _, _, _, rfl, by omega, by omega, by omega, h3, fun i hi2 y hy => ?_⟩, _, ?_, lo, md, _, _, _, rfl, rfl⟩
        · obtain ⟨hlti, rfl⟩ := List.getElem?_eq_some_iff.mp hy
          by_cases e : i = md.toNat
          · subst e; omega
          · have := List.pairwise_iff_getElem.mp hs md.toNat i hlt hlti (by omega)
            omega
        · omega
    · have hc : ¬ lo < hi' := of_decide_eq_false hc
      refine W_cons (W_Return (W_BinOp (W_local rfl (W_int fun t5 => W_sub fun t6 => ?_))))
      intro h S
      refine ⟨[], S, Ends.nil, t6, ?_⟩
      have : bis ns x = lo.toNat := bis_eq (by omega) (fun i hi2 y hy => h3 i (by omega) y hy) (fun y hy => h4 lo.toNat (by omega) y hy)
      rw [this, Int.toNat_of_nonneg h0]
end Nt
end
section
open PySem PySem.W PyProof.Rows PySem.Calls
set_option maxRecDepth 100000
set_option autoImplicit false
set_option linter.unusedVariables false
namespace Nt
noncomputable abbrev Row := List (Str × List Int)
/-- all of two lists, pair by pair -/
inductive All2 {α β : Type} (R : α → β → Prop) : List α → List β → Prop
  | nil : All2 R [] []
  | cons {a : α} {b : β} {as : List α} {bs : List β} : R a b → All2 R as bs → All2 R (a :: as) (b :: bs)
theorem All2.mono {α β : Type} {R S : α → β → Prop} (k : ∀ a b, R a b → S a b) {as : List α} {bs : List β} (x : All2 R as bs) : All2 S as bs := by
  induction x with
  | nil => exact .nil
  | cons h _ ih => exact .cons (k _ _ h) ih
theorem All2.length {α β : Type} {R : α → β → Prop} {as : List α} {bs : List β} (x : All2 R as bs) : as.length = bs.length := by
  induction x with
  | nil => rfl
  | cons h _ ih => rw [List.length_cons, List.length_cons, ih]
theorem All2.get {α β : Type} {R : α → β → Prop} {as : List α} {bs : List β} (x : All2 R as bs) : ∀ (i : Nat) (b : β), bs[i]? = some b → ∃ a, as[i]? = some a ∧ R a b := by
  induction x with
  | nil => intro i b h; simp at h
  | @cons a b as bs h _ ih =>
    intro i c hc
    cases i with
    | zero => obtain rfl : b = c := by simpa using hc
              exact ⟨a, rfl, h⟩
    | succ j => exact ih j c (by simpa using hc)
theorem All2.getL {α β : Type} {R : α → β → Prop} {as : List α} {bs : List β} (x : All2 R as bs) : ∀ (i : Nat) (a : α), as[i]? = some a → ∃ b, bs[i]? = some b ∧ R a b := by
  induction x with
  | nil => intro i b h; simp at h
  | @cons a b as bs h _ ih =>
    intro i c hc
    cases i with
    | zero => obtain rfl : a = c := by simpa using hc
              exact ⟨b, rfl, h⟩
    | succ j => exact ih j c (by simpa using hc)
noncomputable abbrev isStrV (v : Value) (s : Str) : Prop := ∃ t, v = .str s t
noncomputable def RowKv (h : Heap) (kvs : List (Str × Value)) (r : Row) : Prop := All2 (fun kv rc => kv.1 = rc.1 ∧ ∃ t, kv.2 = .ref t ∧ Has h t (tupI rc.2)) kvs r
inductive I2_1 (w : World) (h : Heap) (v : Value) (r : Row) : Prop
  | mk (a : Addr) (kvs : List (Str × Value)) (hh1 : v = .ref a) (hh2 : (a == sysModules) = false) (hh3 : Has h a (dk (strKind prg w) kvs)) (hh4 : RowKv h kvs r)
noncomputable def RowAt (w : World) (h : Heap) (v : Value) (r : Row) : Prop := (I2_1 w h v r)
noncomputable def ValAt (w : World) (h : Heap) (v : Value) : Option Row → Prop
  | none => v = .none
  | some r => RowAt w h v r
theorem RowKv.keeps {h h' : Heap} (k : Le h h') {kvs : List (Str × Value)} {r : Row} (x : RowKv h kvs r) : RowKv h' kvs r := x.mono fun _ _ ⟨e, t, e2, ht⟩ => ⟨e, t, e2, ht.keeps k⟩
theorem RowAt.keeps {w : World} {h h' : Heap} (k : Le h h') {v : Value} {r : Row} (x : RowAt w h v r) : RowAt w h' v r := let ⟨a, kvs, e, q, ha, hr⟩ := x; ⟨a, kvs, e, q, ha.keeps k, hr.keeps k⟩
theorem ValAt.keeps {w : World} {h h' : Heap} (k : Le h h') {v : Value} {r : Option Row} (x : ValAt w h v r) : ValAt w h' v r := by
  cases r with
  | none => exact x
  | some r => exact RowAt.keeps k x
theorem RowKv.value {h : Heap} {kvs : List (Str × Value)} {r : Row} (x : RowKv h kvs r) (s : Str) : match r.lookup s with
    | none => valueAt kvs s = none
    | some ks => ∃ t, valueAt kvs s = some (.ref t) ∧ Has h t (tupI ks) := by
  unfold RowKv at x
  induction x with
  | nil => rfl
  | @cons kv rc kvs r hh _ ih =>
    obtain ⟨e, t, e2, ht⟩ := hh
    rw [List.lookup_cons]
    unfold valueAt at ih ⊢
    rw [List.find?_cons]
    by_cases q : kv.1 = s
    · have q' : (s == rc.1) = true := by rw [← e, q]; exact beq_self_eq_true _
      rw [q', decide_eq_true q]
      exact ⟨t, by rw [← e2]; rfl, ht⟩
    · have q' : (s == rc.1) = false := by
        cases z : s == rc.1 with
        | false => rfl
        | true => exact absurd (e.trans (eq_of_beq z).symm) q
      rw [q', decide_eq_false q]
      exact ih
theorem bis_le (ns : List Int) (x : Int) : bis ns x ≤ ns.length := (List.takeWhile_sublist _).length_le
/-- a range map -/
structure RmIs (w : World) (h : Heap) (starts : List Int) (vals : List (Option Row)) (dx sa va : Addr) (svs vvs : List Value) : Prop where
  hd : Has h dx (att 900 [("default", some .none), ("starts", some (.ref sa)), ("values", some (.ref va))])
  hs : Has h sa (lst svs)
  hv : Has h va (lst vvs)
  is : IntsAre svs starts
  iv : All2 (ValAt w h) vvs vals
inductive I2_2 (w : World) (h : Heap) (x : Addr) (starts : List Int) (vals : List (Option Row)) : Prop
  | mk (dx : Addr) (sa : Addr) (va : Addr) (svs : List Value) (vvs : List Value) (hh1 : Has h x (ins 216 dx)) (hh2 : RmIs w h starts vals dx sa va svs vvs)
noncomputable def RmAt (w : World) (h : Heap) (x : Addr) (starts : List Int) (vals : List (Option Row)) : Prop := (I2_2 w h x starts vals)
structure Good (starts : List Int) (vals : List (Option Row)) (f : Int → Option Row) : Prop where
  sorted : starts.Pairwise (· ≤ ·)
  len : starts.length < 1000
  val : ∀ c, 0 ≤ c → 1 ≤ bis starts c ∧ vals[bis starts c - 1]? = some (f c)
inductive I2_3 (w : World) (h : Heap) (x : Addr) (f : Int → Option Row) : Prop
  | mk (dx : Addr) (df : Value) (mp : Addr) (pr : Value) (wo : Value) (rm : Addr) (starts : List Int) (vals : List (Option Row)) (tc : Unit) (hh1 : Has h x (ins 411 dx)) (hh2 : Has h dx (att 900 [("defaults", some df), ("maps", some (.ref mp)), ("properties", some pr), ("words", some wo)])) (hh3 : (mp == sysModules) = false) (hh4 : Has h mp (dk (strKind prg w) [(("cf" : Str), .ref rm)])) (hh5 : RmAt w h rm starts vals) (hh6 : Good starts vals f) (hh7 : tc = ())
noncomputable def DataAt (w : World) (h : Heap) (x : Addr) (f : Int → Option Row) : Prop :=
  (I2_3 w h x f)
theorem RmIs.keeps {w : World} {h h' : Heap} (k : Le h h') {starts : List Int} {vals : List (Option Row)} {dx sa va : Addr} {svs vvs : List Value} (x : RmIs w h starts vals dx sa va svs vvs) : RmIs w h' starts vals dx sa va svs vvs :=
  ⟨x.hd.keeps k, x.hs.keeps k, x.hv.keeps k, x.is, x.iv.mono fun _ _ y => y.keeps k⟩
theorem RmAt.keeps {w : World} {h h' : Heap} (k : Le h h') {x : Addr} {starts : List Int} {vals : List (Option Row)} (y : RmAt w h x starts vals) : RmAt w h' x starts vals :=
  let ⟨dx, sa, va, svs, vvs, a, b⟩ := y; ⟨dx, sa, va, svs, vvs, a.keeps k, b.keeps k⟩
theorem DataAt.keeps {w : World} {h h' : Heap} (k : Le h h') {x : Addr} {f : Int → Option Row} (y : DataAt w h x f) : DataAt w h' x f :=
  let ⟨dx, df, mp, pr, wo, rm, st, va, tc, a, b, c, d, e, g, z⟩ := y; ⟨dx, df, mp, pr, wo, rm, st, va, tc, a.keeps k, b.keeps k, c, d.keeps k, e.keeps k, g, z⟩
theorem rm_get_spec {w : World} {x : Addr} {code : Int} {tc : Tok} {starts : List Int} {vals : List (Option Row)} {f : Int → Option Row} {H : Heap} (hH : RmAt w H x starts vals) (g : Good starts vals f) (hc : 0 ≤ code) :
    Fn w 6 (.ref 194) [.ref x, .int code tc] [] (fun G => Le H G) (fun _ v _ _ => ValAt w H v (f code)) := by
  refine Fn.of_body (names := ["self", "code"]) (m₀ := [("self", some (.ref x)), ("code", some (.int code tc))]) rfl rfl (fun _ _ => .of_eq rfl) rfl rfl rfl ?_
  intro G L B hG
  refine W.letE ?_
  intro en0 Qf0
  obtain ⟨dx, sa, va, svs, vvs, hx, hd, hs, hv, is, iv⟩ := hH
  have rd : ∀ {P N : Led} {a : Addr} {p : OP}, Has H a p → Rd G P N a p := fun h => .inr (.inr (h.keeps hG))
  refine W_cons (W_Return (W_Subscript (W_Attr (W_local rfl (W_getAttr (cls_RangeMap w) (rd hx) (rd hd) rfl ?_ rfl rfl)))))
  refine W_CallName (W_global (v := .ref 28) rfl (W_callWithF rfl (W_argsCons (W_Attr (W_local rfl (W_getAttr (cls_RangeMap w) (rd hx) (rd hd) rfl ?_ rfl rfl))))))
  refine W_argsCons (W_local rfl (W_argsNil ?_))
  refine W_call0E ((place_by_half_spec is g.sorted (by have := g.len; omega)).le (by decide)) (fun g' S => (hs.keeps hG).keeps S) fun v F g' h' post => ?_
  obtain ⟨t, rfl⟩ := post
  obtain ⟨h1, h2⟩ := g.val code hc
  obtain ⟨u, hu, hv'⟩ := iv.get _ _ h2
  have hl := (List.getElem?_eq_some_iff.mp hu).1
  have e2 : ((bis starts code : Int) - 1).toNat = bis starts code - 1 := by omega
  have hb : bis starts code ≤ starts.length := by exact bis_le _ _
  refine W_itemL (rd hv) (by omega) (by rw [e2]; exact hu) (by have := g.len; omega) ?_
  exact fun h S => ⟨[], S, Ends.nil, hv'⟩
theorem cf_value {v : Value} : valueAt [(("cf" : Str), v)] "cf" = some v := rfl
theorem data_get_spec {w : World} {x : Addr} {code : Int} {tc ts : Tok} {f : Int → Option Row} {H : Heap} (hH : DataAt w H x f) (hc : 0 ≤ code) :
    Fn w 7 (.ref 401) [.ref x, .str "cf" ts, .int code tc] [] (fun G => Le H G) (fun _ v _ _ => ValAt w H v (f code)) := by
  refine Fn.of_body (names := ["self", "name", "code"]) (m₀ := [("self", some (.ref x)), ("name", some (.str "cf" ts)), ("code", some (.int code tc))]) rfl rfl (fun _ _ => .of_eq rfl) rfl rfl rfl ?_
  intro G L B hG
  refine W.letE ?_
  intro en0 Qf0
  obtain ⟨dx, df, mp, pr, wo, rm, starts, vals, _, hx, hd, hne, hm, hr, g, _⟩ := hH
  obtain ⟨rdx, sa, va, svs, vvs, hrx, hri⟩ := id hr
  have rd : ∀ {P N : Led} {a : Addr} {p : OP}, Has H a p → Rd G P N a p := fun h => .inr (.inr (h.keeps hG))
  refine W_cons (W_If (W_isTrueCompare (W_local rfl (W_Attr (W_local rfl (W_getAttr (cls_Data w) (rd hx) (rd hd) rfl ?_ rfl rfl))))))
  refine W_inD (isS w _ _) (rd hm) hne (W_truthyBool ⟨fun _ => ?_, fun e => nomatch e⟩)
  refine W_cons (W_Return (W_CallMeth (W_Subscript (W_Attr (W_local rfl (W_getAttr (cls_Data w) (rd hx) (rd hd) rfl ?_ rfl rfl))))))
  refine W_local rfl (W_itemD (isS w _ _) (rd hm) cf_value ?_)
  refine W_getMeth (cls_RangeMap w) (rd hrx) (rd hri.hd) rfl rfl rfl ?_
  refine W_callWithF rfl (W_argsCons (W_local rfl (W_argsNil ?_)))
  refine W_call0E ((rm_get_spec hr g hc).le (by decide)) (fun g' S b o e => S _ _ (hG _ _ e)) fun v F g' h' post => ?_
  exact fun h S => ⟨[], S, Ends.nil, post⟩
end Nt
end
section
open PySem PySem.W PyProof.Rows PySem.Calls
set_option maxRecDepth 100000
set_option autoImplicit false
set_option linter.unusedVariables false
namespace Nt
noncomputable def pick (row : Row) : List Str → Option (List Int)
  | [] => none
  | s :: r => match row.lookup s with
    | some ks => some ks
    | none => pick row r
theorem pick_hit {row : Row} : ∀ {ss : List Str} {i : Nat} {s : Str} {ks : List Int}, (∀ j, j < i → ∀ y, ss[j]? = some y → row.lookup y = none) → ss[i]? = some s → row.lookup s = some ks → pick row ss = some ks
  | [], i, s, ks, _, h, _ => by simp at h
  | x :: r, 0, s, ks, _, h, e => by
    obtain rfl : x = s := by simpa using h
    unfold pick; rw [e]
  | x :: r, i + 1, s, ks, a, h, e => by
    unfold pick
    rw [a 0 (Nat.succ_pos _) x rfl]
    exact pick_hit (i := i) (fun j hj y hy => a (j + 1) (Nat.succ_lt_succ hj) y (by simpa using hy)) (by simpa using h) e
theorem pick_miss {row : Row} : ∀ {ss : List Str}, (∀ j, j < ss.length → ∀ y, ss[j]? = some y → row.lookup y = none) → pick row ss = none
  | [], _ => rfl
  | x :: r, a => by
    unfold pick
    rw [a 0 (Nat.succ_pos _) x rfl]
    exact pick_miss fun j hj y hy => a (j + 1) (Nat.succ_lt_succ hj) y (by simpa using hy)
noncomputable def foldS (f : Int → Option Row) (ss : List Str) (c : Int) : List Int := match f c with
  | none => [c]
  | some row => (pick row ss).getD [c]
noncomputable def tupS (ss : List Str) : OP := fun o => ∃ vs, All2 isStrV vs ss ∧ tup vs o
theorem fold_of_spec2 {w : World} {x st : Addr} {code : Int} {tc : Tok} {f : Int → Option Row} {H : Heap} {ss : List Str} (hH : DataAt w H x f) (hc : 0 ≤ code) :
    Fn w 8 (.ref 234) [.int code tc, .ref x, .ref st] [] (fun G => Le H G ∧ Has G st (tupS ss)) (fun G v _ h' => ∃ r, v = .ref r ∧ New H G h' r (tupI (foldS f ss code)) ∧ (foldS f ss code ≠ [code] → Has H r (tupI (foldS f ss code)))) := by
  refine Fn.of_body (names := ["code", "data", "statuses", "known", "status"]) (m₀ := [("code", some (.int code tc)), ("data", some (.ref x)), ("statuses", some (.ref st)), ("known", none), ("status", none)]) rfl rfl (fun _ _ => .of_eq rfl) rfl rfl rfl ?_
  intro G L B ⟨hG, hst⟩
  refine W.letE ?_
  intro en0 Qf0
  have rd : ∀ {P N : Led} {a : Addr} {p : OP}, Has H a p → Rd G P N a p := fun h => .inr (.inr (h.keeps hG))
  obtain ⟨ost, host, svs, hsv, htup⟩ := hst
  obtain ⟨dx, df, mp, pr, wo, rm, starts, vals, _, hx, hd, hne, hm, hr, g, _⟩ := id hH
  refine W_cons (W_AssignName (W_CallMeth (W_local rfl (W_getMeth (cls_Data w) (rd hx) (rd hd) rfl rfl rfl ?_))))
  refine W_callWithF rfl (W_argsCons (W_str fun t0 => W_argsCons (W_local rfl (W_argsNil ?_))))
  refine W_call0E ((data_get_spec hH hc).le (by decide)) (fun g' S b o e => S _ _ (hG _ _ e)) fun v F g' h' hv => ?_
  refine W_store ?_
  refine W_cut (fun P N m => N = [] ∧ foldS f ss code = [code] ∧ ∃ u, m = ([("code", some (.int code tc)), ("data", some (.ref x)), ("statuses", some (.ref st)), ("known", some v), ("status", u)] : Vars)) ?_ ?_
  · refine W_If (W_isTrueCompare (W_local rfl (W_none ?_)))
    cases hf : f code with
    | none =>
      rw [hf] at hv
      obtain rfl : v = .none := hv
      refine W_isNot rfl (W_truthyBool ⟨fun e => (nomatch e), fun _ => W_nil ⟨rfl, by unfold foldS; rw [hf], none, rfl⟩⟩)
    | some row =>
      rw [hf] at hv
      obtain ⟨ka, kvs, rfl, hkne, hka, hkv⟩ := hv
      refine W_isNot rfl (W_truthyBool ⟨fun _ => ?_, fun e => nomatch e⟩)
      refine W_cons (W_For [] svs.length (fun (i : Nat) (v : Value) => svs[i]? = some v)
        (fun i N m => N = [] ∧ (∀ j, j < i → ∀ y, ss[j]? = some y → row.lookup y = none) ∧ ∃ u, m = ([("code", some (.int code tc)), ("data", some (.ref x)), ("statuses", some (.ref st)), ("known", some (.ref ka)), ("status", u)] : Vars)) ?_ ?_ ?_)
      · exact W_local rfl ⟨rfl, .tuple (.inr ⟨_, host, htup⟩), rfl, fun j hj => absurd hj (Nat.not_lt_zero _), none, rfl⟩
      · rintro G' le i vi N m hi hvi ⟨rfl, hpast, u, rfl⟩
        obtain ⟨s, hs, ts, rfl⟩ := hsv.getL i vi hvi
        refine W_assignName (W_store ?_)
        have rd' : ∀ {P N : Led} {a : Addr} {p : OP}, Has H a p → Rd G' P N a p := fun h => .inr (.inr ((h.keeps hG).keeps le))
        refine W_cons (W_If (W_isTrueCompare (W_local rfl (W_local rfl (W_inD (isS w _ _) (rd' hka) hkne (W_truthyBool ?_))))))
        have hval := hkv.value s
        cases hl : row.lookup s with
        | none =>
          rw [hl] at hval
          dsimp only at hval
          rw [hval]
          refine ⟨fun e => (nomatch e), fun _ => W_nil (W_nil ⟨fun _ h => h, rfl, fun j hj y hy => ?_, _, rfl⟩)⟩
          by_cases e : j = i
          · subst e; rw [hs] at hy; cases hy; exact hl
          · exact hpast j (by omega) y hy
        | some ks =>
          rw [hl] at hval
          obtain ⟨t, hvt, ht⟩ := hval
          rw [hvt]
          refine ⟨fun _ => ?_, fun e => (nomatch e)⟩
          obtain ⟨ot, hot, tvs, hti, htt⟩ := ht
          refine W_cons (W_Return (W_CallName (W_builtin rfl rfl (W_callWithT (W_argsCons (W_Subscript (W_local rfl (W_local rfl (W_itemD (isS w _ _) (rd' hka) hvt (W_argsNil (W_tupleT (rd' ⟨_, hot, htt⟩) ?_)))))))))))
          refine fun h S => ⟨[], S, Ends.nil, t, rfl, ?_⟩
          have : foldS f ss code = ks := by unfold foldS; rw [hf]; dsimp only; rw [pick_hit hpast hs hl]; rfl
          rw [this]
          exact ⟨⟨S.rd (rd ⟨_, hot, tvs, hti, htt⟩), .inr ⟨_, hot⟩⟩, fun _ => ⟨_, hot, tvs, hti, htt⟩⟩
      · rintro N m ⟨rfl, hpast, u, rfl⟩
        refine W_nil ⟨rfl, ?_, u, rfl⟩
        unfold foldS; rw [hf]; dsimp only; rw [pick_miss (by rw [hsv.length] at hpast; exact hpast)]; rfl
  · rintro P N m ⟨rfl, hfold, u, rfl⟩
    refine W_cons (W_Return (W_Tuple (W_argsCons (W_local rfl (W_argsNil (W_newTuple (by rw [sizeLine_eq]; simp) fun r hr => ?_))))))
    refine fun h S => ⟨[], S.subP (fun _ h => nomatch h), Ends.nil, r, rfl, ?_⟩
    rw [hfold]
    obtain ⟨o, ho, n, rfl⟩ := (S.ps _ (.head _)).1
    exact ⟨⟨⟨_, ho, _, .cons _ _ .nil, n, rfl⟩, .inl hr⟩, fun q => absurd rfl q⟩
theorem fold_of_spec {w : World} {x st : Addr} {code : Int} {tc : Tok} {f : Int → Option Row} {H : Heap} {ss : List Str} (hH : DataAt w H x f) (hc : 0 ≤ code) :
    Fn w 8 (.ref 234) [.int code tc, .ref x, .ref st] [] (fun G => Le H G ∧ Has G st (tupS ss)) (fun G v _ h' => ∃ r, v = .ref r ∧ New H G h' r (tupI (foldS f ss code))) :=
  (fold_of_spec2 hH hc).mono (fun _ h => h) fun _ _ _ _ _ ⟨r, e, h, _⟩ => ⟨r, e, h⟩
noncomputable def stsOf (full turk : Bool) : List Str := if turk then ["T", if full then "F" else "S", "C"] else [if full then "F" else "S", "C"]
inductive I3_1 (full : Bool) (turk : Bool) (G : Heap) (P : Led) (m : Vars) : Prop
  | mk (r : Addr) (t1 : Tok) (t2 : Tok) (hh1 : G.get? r = none) (hh2 : P = [(r, tup [.str (if full then "F" else "S") t1, .str "C" t2])]) (hh3 : m = ([("is_full", some (.bool full)), ("is_turkic", some (.bool turk)), ("found", some (.ref r))] : Vars))
theorem fold_statuses_spec {w : World} {full turk : Bool} : Fn w 8 (.ref 241) [.bool full, .bool turk] [] (fun G => True) (fun G v _ h' => ∃ r, v = .ref r ∧ G.get? r = none ∧ Has h' r (tupS (stsOf full turk))) := by
  refine Fn.of_body (names := ["is_full", "is_turkic", "found"]) (m₀ := [("is_full", some (.bool full)), ("is_turkic", some (.bool turk)), ("found", none)]) rfl rfl (fun _ _ => .of_eq rfl) rfl rfl rfl ?_
  intro G L B _
  refine W.letE ?_
  intro en0 Qf0
  refine W_cut (fun P N m => N = [] ∧ (I3_1 full turk G P m)) ?_ ?_
  · refine W_AssignName (W_IfExp (W_isTrueName (W_local rfl (W_truthyBool ⟨fun e => ?_, fun e => ?_⟩))))
    · subst e
      exact W_Tuple (W_argsCons (W_str fun t1 => W_argsCons (W_str fun t2 => W_argsNil (W_newTuple (by rw [sizeLine_eq]; simp) fun r hr => W_store ⟨rfl, r, t1, t2, hr, rfl, rfl⟩))))
    · subst e
      exact W_Tuple (W_argsCons (W_str fun t1 => W_argsCons (W_str fun t2 => W_argsNil (W_newTuple (by rw [sizeLine_eq]; simp) fun r hr => W_store ⟨rfl, r, t1, t2, hr, rfl, rfl⟩))))
  · rintro P N m ⟨rfl, r, t1, t2, hr, rfl, rfl⟩
    refine W_cons (W_Return (W_IfExp (W_isTrueName (W_local rfl (W_truthyBool ⟨fun e => ?_, fun e => ?_⟩)))))
    · subst e
      refine W_BinOp (W_Tuple (W_argsCons (W_str fun t3 => W_argsNil (W_newTuple (by rw [sizeLine_eq]; simp) fun r2 hr2 => ?_))))
      refine W_local rfl (W_addT (.inr (.inl (.head _))) (.inr (.inl (.tail _ (.head _)))) (fun e => nomatch e) (fun e => nomatch e) (by simp) fun r3 hr3 => ?_)
      refine fun h S => ⟨[], S.subP (fun _ h => nomatch h), Ends.nil, r3, rfl, hr3, ?_⟩
      obtain ⟨o, ho, n, rfl⟩ := (S.ps _ (.head _)).1
      exact ⟨_, ho, _, .cons ⟨t3, rfl⟩ (.cons ⟨t1, rfl⟩ (.cons ⟨t2, rfl⟩ .nil)), n, rfl⟩
    · subst e
      refine W_local rfl fun h S => ⟨[], S.subP (fun _ h => nomatch h), Ends.nil, r, rfl, hr, ?_⟩
      obtain ⟨o, ho, n, rfl⟩ := (S.ps _ (.head _)).1
      exact ⟨_, ho, _, .cons ⟨t1, rfl⟩ (.cons ⟨t2, rfl⟩ .nil), n, rfl⟩
end Nt
end
section
open PySem PySem.W PyProof.Rows PySem.Calls
set_option maxRecDepth 100000
set_option autoImplicit false
set_option linter.unusedVariables false
namespace Nt
/-- a reading of told: rows short, codes not negative -/
structure Short (f : Int → Option Row) : Prop where
  len : ∀ ss c, (foldS f ss c).length ≤ 3
  pos : ∀ ss c, 0 ≤ c → ∀ k ∈ foldS f ss c, 0 ≤ k
noncomputable def txt (f : Int → Option Row) (ss : List Str) (t : List Int) : List Int := t.flatMap (foldS f ss)
theorem txt_take {f : Int → Option Row} {ss : List Str} {t : List Int} {i : Nat} {c : Int} (h : t[i]? = some c) : txt f ss (t.take (i + 1)) = txt f ss (t.take i) ++ foldS f ss c := by
  rw [List.take_add_one, h]
  simp [txt]
theorem txt_length {f : Int → Option Row} {ss : List Str} (S : Short f) : ∀ t : List Int, (txt f ss t).length ≤ 3 * t.length
  | [] => by simp [txt]
  | c :: r => by
    have := txt_length S (ss := ss) r
    have := S.len ss c
    simp only [txt, List.flatMap_cons, List.length_append, List.length_cons] at *
    omega
inductive I4_1 (ns : List Int) (i : Nat) (v : Value) : Prop
  | mk (c : Int) (t : Tok) (hh1 : ns[i]? = some c) (hh2 : v = .int c t)
theorem IntsAre.getV {vs : List Value} {ns : List Int} (h : IntsAre vs ns) {i : Nat} {v : Value} (e : vs[i]? = some v) : (I4_1 ns i v) := by
  have hl := (List.getElem?_eq_some_iff.mp e).1
  have hl' : i < ns.length := by rw [← h.length]; exact hl
  obtain ⟨t, ht⟩ := h.get i ns[i] (by simp [hl'])
  rw [e] at ht
  exact ⟨ns[i], t, by simp [hl'], Option.some.inj ht⟩
theorem fold_by_spec {w : World} {x tx st : Addr} {f : Int → Option Row} {H : Heap} {ss : List Str} {text : List Int} (hH : DataAt w H x f) (hsh : Short f) (hlen : text.length ≤ 1000) (hc : ∀ c ∈ text, 0 ≤ c) :
    Fn w 9 (.ref 248) [.ref tx, .ref x, .ref st] [] (fun G => Le H G ∧ Has G tx (lstI text) ∧ Has G st (tupS ss)) (fun _ v N' _ => ∃ r, v = .ref r ∧ N' = [(r, lstI (txt f ss text))]) := by
  refine Fn.of_body (names := ["text", "data", "statuses", "found", "code"]) (m₀ := [("text", some (.ref tx)), ("data", some (.ref x)), ("statuses", some (.ref st)), ("found", none), ("code", none)]) rfl rfl (fun _ _ => .of_eq rfl) rfl rfl rfl ?_
  intro G L B ⟨hG, ht, hst⟩
  refine W.letE ?_
  intro en0 Qf0
  obtain ⟨otx, hotx, tvs, hti, htl⟩ := ht
  refine W_cons (W_AssignName (W_List (W_argsNil (W_newList (by rw [sizeLine_eq]; simp) fun r => W_store ?_))))
  refine W_cut (fun P N m => ∃ vs, IntsAre vs (txt f ss text) ∧ N = [(r, lst vs)] ∧ ∃ u, m = ([("text", some (.ref tx)), ("data", some (.ref x)), ("statuses", some (.ref st)), ("found", some (.ref r)), ("code", u)] : Vars)) ?_ ?_
  · refine W_For [] tvs.length (fun (i : Nat) (v : Value) => tvs[i]? = some v) (fun i N m => ∃ vs, IntsAre vs (txt f ss (text.take i)) ∧ N = [(r, lst vs)] ∧ ∃ u, m = ([("text", some (.ref tx)), ("data", some (.ref x)), ("statuses", some (.ref st)), ("found", some (.ref r)), ("code", u)] : Vars)) ?_ ?_ ?_
    · exact W_local rfl ⟨rfl, .list (.inr ⟨_, hotx, htl⟩), [], .nil, rfl, none, rfl⟩
    · rintro G' le i vi N m hi hvi ⟨vs, hvs, rfl, u, rfl⟩
      obtain ⟨c, tc, hci, rfl⟩ := IntsAre.getV hti hvi
      refine W_assignName (W_store ?_)
      refine W_cons (W_Expr (W_CallMeth (W_local rfl (W_mL PySem.F.slot_list_extend (.inl (.head _)) ?_))))
      refine W_callWithB (W_argsCons (W_CallName (W_global (v := .ref 234) rfl (W_callWithF rfl (W_argsCons (W_local rfl (W_argsCons (W_local rfl (W_argsCons (W_local rfl (W_argsNil ?_)))))))))))
      have hc0 : 0 ≤ c := hc c (List.mem_of_getElem? hci)
      refine W_call0 ((fold_of_spec hH hc0).le (by decide)) (fun g' S => ⟨fun b o e => S.keep _ _ (le _ _ (hG _ _ e)), (hst.keeps le).keeps S.keep⟩) fun v F g' h' S1 k S2 hv => ?_
      obtain ⟨q, rfl, hq⟩ := hv
      obtain ⟨oq, hoq, qvs, hqi, hqt⟩ := id hq.1
      have hq' : New H g' h' q (tup qvs) := ⟨⟨_, hoq, hqt⟩, hq.2⟩
      refine ⟨_, _, _, S2.pinNew S1 (fun b o e => le _ _ (hG _ _ e)) hq', ?_⟩
      have l1 := txt_length hsh (ss := ss) (text.take i)
      have l2 := hsh.len ss c
      have l3 := hvs.length
      have l4 := hqi.length
      have l5 : (text.take i).length ≤ text.length := (List.take_sublist ..).length_le
      refine W_argsNil (W_extendT (.head) (.inr (.inl (.head _))) (by omega) ?_)
      refine W_nil ⟨fun _ h => (nomatch h), _, ?_, rfl, _, rfl⟩
      rw [txt_take hci]
      exact hvs.append hqi
    · rintro N m ⟨vs, hvs, rfl, u, rfl⟩
      have e : text.take tvs.length = text := by rw [hti.length, List.take_length]
      rw [e] at hvs
      exact ⟨vs, hvs, rfl, u, rfl⟩
  · rintro P N m ⟨vs, hvs, rfl, u, rfl⟩
    refine W_cons (W_Return (W_local rfl fun h S => ⟨_, (S.subP (P' := []) (fun _ h => (nomatch h))).nimp fun o y => ⟨vs, hvs, y⟩, Ends.nil, r, rfl, rfl⟩))
theorem fold_simple_spec {w : World} {x tx : Addr} {turk : Bool} {f : Int → Option Row} {H : Heap} {text : List Int} (hH : DataAt w H x f) (hsh : Short f) (hlen : text.length ≤ 1000) (hc : ∀ c ∈ text, 0 ≤ c) :
    Fn w 10 (.ref 256) [.ref tx, .ref x, .bool turk] [] (fun G => Le H G ∧ Has G tx (lstI text)) (fun _ v N' _ => ∃ r, v = .ref r ∧ N' = [(r, lstI (txt f (stsOf false turk) text))]) := by
  refine Fn.of_body (names := ["text", "data", "is_turkic"]) (m₀ := [("text", some (.ref tx)), ("data", some (.ref x)), ("is_turkic", some (.bool turk))]) rfl rfl (fun _ X => binds_K X rfl rfl rfl rfl rfl) rfl rfl rfl ?_
  intro G L B ⟨hG, ht⟩
  refine W.letE ?_
  intro en0 Qf0
  refine W_cons (W_Return (W_CallName (W_global (v := .ref 248) rfl (W_callWithF rfl (W_argsCons (W_local rfl (W_argsCons (W_local rfl (W_argsCons (W_CallName (W_global (v := .ref 241) rfl (W_callWithF rfl (W_argsCons (W_boolC (W_argsCons (W_local rfl (W_argsNil ?_)))))))))))))))))
  refine W_call0 (fold_statuses_spec.le (by decide)) (fun _ _ => trivial) fun v F g' h' S1 k S2 ⟨r, e, hr, hst⟩ => ⟨_, _, _, S2.pin hst (S1.fresh hr).1 (S1.fresh hr).2.1, ?_⟩
  subst e
  refine W_argsNil (W_callES (N0 := []) ((fold_by_spec hH hsh hlen hc).le (by decide)) (fun g S => ⟨fun b o e => S.keep _ _ (hG _ _ e), ht.keeps S.keep, (S.ps _ (.head _)).1⟩) fun v N' g h' ⟨r, e, e2⟩ => ?_)
  subst e e2
  exact fun h S => ⟨_, S.subP (fun _ h => (nomatch h)), Ends.nil, r, rfl, rfl⟩
theorem fold_full_spec {w : World} {x tx : Addr} {turk : Bool} {f : Int → Option Row} {H : Heap} {text : List Int} (hH : DataAt w H x f) (hsh : Short f) (hlen : text.length ≤ 1000) (hc : ∀ c ∈ text, 0 ≤ c) :
    Fn w 10 (.ref 264) [.ref tx, .ref x, .bool turk] [] (fun G => Le H G ∧ Has G tx (lstI text)) (fun _ v N' _ => ∃ r, v = .ref r ∧ N' = [(r, lstI (txt f (stsOf true turk) text))]) := by
  refine Fn.of_body (names := ["text", "data", "is_turkic"]) (m₀ := [("text", some (.ref tx)), ("data", some (.ref x)), ("is_turkic", some (.bool turk))]) rfl rfl (fun _ X => binds_K X rfl rfl rfl rfl rfl) rfl rfl rfl ?_
  intro G L B ⟨hG, ht⟩
  refine W.letE ?_
  intro en0 Qf0
  refine W_cons (W_Return (W_CallName (W_global (v := .ref 248) rfl (W_callWithF rfl (W_argsCons (W_local rfl (W_argsCons (W_local rfl (W_argsCons (W_CallName (W_global (v := .ref 241) rfl (W_callWithF rfl (W_argsCons (W_boolC (W_argsCons (W_local rfl (W_argsNil ?_)))))))))))))))))
  refine W_call0 (fold_statuses_spec.le (by decide)) (fun _ _ => trivial) fun v F g' h' S1 k S2 ⟨r, e, hr, hst⟩ => ⟨_, _, _, S2.pin hst (S1.fresh hr).1 (S1.fresh hr).2.1, ?_⟩
  subst e
  refine W_argsNil (W_callES (N0 := []) ((fold_by_spec hH hsh hlen hc).le (by decide)) (fun g S => ⟨fun b o e => S.keep _ _ (hG _ _ e), ht.keeps S.keep, (S.ps _ (.head _)).1⟩) fun v N' g h' ⟨r, e, e2⟩ => ?_)
  subst e e2
  exact fun h S => ⟨_, S.subP (fun _ h => (nomatch h)), Ends.nil, r, rfl, rfl⟩
theorem caseless_default_spec {w : World} {x tx : Addr} {turk : Bool} {f : Int → Option Row} {H : Heap} {text : List Int} (hH : DataAt w H x f) (hsh : Short f) (hlen : text.length ≤ 1000) (hc : ∀ c ∈ text, 0 ≤ c) :
    Fn w 11 (.ref 272) [.ref tx, .ref x, .bool turk] [] (fun G => Le H G ∧ Has G tx (lstI text)) (fun _ v N' _ => ∃ r, v = .ref r ∧ N' = [(r, lstI (txt f (stsOf true turk) text))]) := by
  refine Fn.of_body (names := ["text", "data", "is_turkic"]) (m₀ := [("text", some (.ref tx)), ("data", some (.ref x)), ("is_turkic", some (.bool turk))]) rfl rfl (fun _ X => binds_K X rfl rfl rfl rfl rfl) rfl rfl rfl ?_
  intro G L B ⟨hG, ht⟩
  refine W.letE ?_
  intro en0 Qf0
  refine W_cons (W_Return (W_CallName (W_global (v := .ref 264) rfl (W_callWithF rfl (W_argsCons (W_local rfl (W_argsCons (W_local rfl (W_argsCons (W_local rfl (W_argsNil ?_)))))))))))
  refine W_callE (N0 := []) ((fold_full_spec hH hsh hlen hc).le (by decide)) (fun g S => ⟨fun b o e => S _ _ (hG _ _ e), ht.keeps S⟩) fun v N' g h' ⟨r, e, e2⟩ => ?_
  subst e e2
  exact fun h S => ⟨_, S.subP (fun _ h => (nomatch h)), Ends.nil, r, rfl, rfl⟩
theorem matches_default_spec {w : World} {x ta tb : Addr} {turk : Bool} {f : Int → Option Row} {H : Heap} {one other : List Int} (hH : DataAt w H x f) (hsh : Short f) (hl1 : one.length ≤ 1000) (hc1 : ∀ c ∈ one, 0 ≤ c) (hl2 : other.length ≤ 1000) (hc2 : ∀ c ∈ other, 0 ≤ c) :
    Fn w 12 (.ref 280) [.ref ta, .ref tb, .ref x, .bool turk] [] (fun G => Le H G ∧ Has G ta (lstI one) ∧ Has G tb (lstI other)) (fun _ v _ _ => v = .bool (decide (txt f (stsOf true turk) one = txt f (stsOf true turk) other))) := by
  refine Fn.of_body (names := ["one", "other", "data", "is_turkic"]) (m₀ := [("one", some (.ref ta)), ("other", some (.ref tb)), ("data", some (.ref x)), ("is_turkic", some (.bool turk))]) rfl rfl (fun _ X => binds_K X rfl rfl rfl rfl rfl) rfl rfl rfl ?_
  intro G L B ⟨hG, ha, hb⟩
  refine W.letE ?_
  intro en0 Qf0
  refine W_cons (W_Return (W_Compare1 (W_CallName (W_global (v := .ref 272) rfl (W_callWithF rfl (W_argsCons (W_local rfl (W_argsCons (W_local rfl (W_argsCons (W_local rfl (W_argsNil ?_))))))))))))
  refine W_callE (N0 := []) ((caseless_default_spec hH hsh hl1 hc1).le (by decide)) (fun g S => ⟨fun b o e => S _ _ (hG _ _ e), ha.keeps S⟩) fun v N' g h' ⟨r, e, e2⟩ => ?_
  subst e e2
  refine W_CallName (W_global (v := .ref 272) rfl (W_callWithF rfl (W_argsCons (W_local rfl (W_argsCons (W_local rfl (W_argsCons (W_local rfl (W_argsNil ?_)))))))))
  refine W_callE (N0 := []) ((caseless_default_spec hH hsh hl2 hc2).le (by decide)) (fun g S => ⟨fun b o e => S _ _ (hG _ _ e), hb.keeps S⟩) fun v N' g h' ⟨r2, e, e2⟩ => ?_
  subst e e2
  refine W_eqLL (.inl (.tail _ (.head _))) (.inl (.head _)) ?_
  exact fun h S => ⟨_, S, Ends.nil, rfl⟩
end Nt
end
section
open PySem PySem.W PyProof.Rows PySem.Calls
set_option maxRecDepth 100000
set_option autoImplicit false
set_option linter.unusedVariables false
namespace Nt
noncomputable def eat (f : Int → Option Row) (ss : List Str) (goal : List Int) : List Int → List Int → Nat → List Int × Nat
  | [], known, place => (known, place)
  | c :: r, known, place => if known.length < goal.length then eat f ss goal r (known ++ foldS f ss c) (place + 1) else (known, place)
noncomputable def endOf (f : Int → Option Row) (ss : List Str) (goal text : List Int) (at_ : Nat) : Option Nat :=
  let e := eat f ss goal (text.drop at_) [] at_
  if e.1 = goal then some e.2 else none
noncomputable def optV (v : Value) : Option Nat → Prop
  | none => v = .none
  | some p => ∃ t, v = .int p t
theorem eat_stop {f : Int → Option Row} {ss : List Str} {goal rest known : List Int} {place : Nat} (h : ¬ (known.length < goal.length ∧ rest ≠ [])) : eat f ss goal rest known place = (known, place) := by
  cases rest with
  | nil => rfl
  | cons c r => unfold eat; rw [if_neg fun q => h ⟨q, fun e => nomatch e⟩]
inductive I5_1 (x : Addr) (tx : Addr) (gx : Addr) (st : Addr) (a : Nat) (ta : Tok) (f : Int → Option Row) (ss : List Str) (text : List Int) (goal : List Int) (r : Addr) (N : Led) (m : Vars) : Prop
  | mk (known : List Int) (kvs : List Value) (place : Int) (tp : Tok) (hh1 : IntsAre kvs known) (hh2 : N = [(r, lst kvs)]) (hh3 : m = ([("text", some (.ref tx)), ("at", some (.int a ta)), ("goal", some (.ref gx)), ("data", some (.ref x)), ("statuses", some (.ref st)), ("known", some (.ref r)), ("place", some (.int place tp))] : Vars)) (hh4 : ∃ n : Nat, place = n ∧ eat f ss goal (text.drop a) [] a = (known, n))
inductive I5_2 (x : Addr) (tx : Addr) (gx : Addr) (st : Addr) (a : Nat) (ta : Tok) (f : Int → Option Row) (ss : List Str) (text : List Int) (goal : List Int) (r : Addr) (N : Led) (m : Vars) : Prop
  | mk (known : List Int) (kvs : List Value) (n : Nat) (tp : Tok) (hh1 : IntsAre kvs known) (hh2 : known.length ≤ 3 * n) (hh3 : N = [(r, lst kvs)]) (hh4 : m = ([("text", some (.ref tx)), ("at", some (.int a ta)), ("goal", some (.ref gx)), ("data", some (.ref x)), ("statuses", some (.ref st)), ("known", some (.ref r)), ("place", some (.int (n : Nat) tp))] : Vars)) (hh5 : n ≤ text.length) (hh6 : eat f ss goal (text.drop a) [] a = eat f ss goal (text.drop n) known n)
inductive I5_3 (x : Addr) (tx : Addr) (gx : Addr) (st : Addr) (a : Nat) (ta : Tok) (text : List Int) (r : Addr) (m : Vars) (k : Nat) : Prop
  | mk (n : Nat) (tp : Tok) (hh1 : m = ([("text", some (.ref tx)), ("at", some (.int a ta)), ("goal", some (.ref gx)), ("data", some (.ref x)), ("statuses", some (.ref st)), ("known", some (.ref r)), ("place", some (.int n tp))] : Vars)) (hh2 : k = text.length - n)
theorem fold_end_spec {w : World} {x tx gx st : Addr} {a : Nat} {ta : Tok} {f : Int → Option Row} {H : Heap} {ss : List Str} {text goal : List Int} (hH : DataAt w H x f) (hsh : Short f) (hlen : text.length ≤ 1000) (hglen : goal.length ≤ 1000) (hc : ∀ c ∈ text, 0 ≤ c) (ha : a ≤ text.length) :
    Fn w 9 (.ref 366) [.ref tx, .int a ta, .ref gx, .ref x, .ref st] [] (fun G => Le H G ∧ Has G tx (lstI text) ∧ Has G gx (lstI goal) ∧ Has G st (tupS ss)) (fun _ v _ _ => optV v (endOf f ss goal text a)) := by
  refine Fn.of_body (names := ["text", "at", "goal", "data", "statuses", "known", "place"]) (m₀ := [("text", some (.ref tx)), ("at", some (.int a ta)), ("goal", some (.ref gx)), ("data", some (.ref x)), ("statuses", some (.ref st)), ("known", none), ("place", none)]) rfl rfl (fun _ _ => .of_eq rfl) rfl rfl rfl ?_
  intro G L B ⟨hG, ht, hg, hst⟩
  refine W.letE ?_
  intro en0 Qf0
  obtain ⟨otx, hotx, tvs, hti, htl⟩ := id ht
  obtain ⟨ogx, hogx, gvs, hgi, hgl⟩ := id hg
  have rt : ∀ {P N : Led}, Rd G P N tx (lst tvs) := .inr (.inr ⟨_, hotx, htl⟩)
  have rg : ∀ {P N : Led}, Rd G P N gx (lst gvs) := .inr (.inr ⟨_, hogx, hgl⟩)
  have hl1 := hti.length
  have hl2 := hgi.length
  refine W_cons (W_Swap2 (W_argsCons (W_List (W_argsNil (W_newList (by rw [sizeLine_eq]; simp) fun r => ?_)))))
  refine W_argsCons (W_local rfl (W_argsNil ⟨_, _, rfl, W_store (W_store ?_)⟩))
  refine W_cut (fun P N m => (I5_1 x tx gx st a ta f ss text goal r N m)) ?_ ?_
  · refine W_While (fun P N m => (I5_2 x tx gx st a ta f ss text goal r N m))
      (fun P N m k => (I5_3 x tx gx st a ta text r m k)) ?_ ?_ ?_
    · exact ⟨[], [], a, ta, .nil, by simp, rfl, rfl, ha, rfl⟩
    · rintro P N m ⟨known, kvs, n, tp, _, _, _, rfl, _⟩
      exact ⟨_, n, tp, rfl, rfl⟩
    · rintro P N m k ⟨known, kvs, n, tp, hk, hk3, rfl, rfl, hn, he⟩ ⟨_, _, e, rfl⟩
      cases e
      have hl3 := hk.length
      refine W_isTrueAnd (W_andCons (W_isTrueCompare (W_CallName (W_builtin rfl rfl (W_callWithB (W_argsCons (W_local rfl (W_argsNil (W_lenL (.inl (.head _)) (by omega) fun t1 => ?_)))))))))
      refine W_CallName (W_builtin rfl rfl (W_callWithB (W_argsCons (W_local rfl (W_argsNil (W_lenL rg (by omega) fun t2 => W_lt (W_truthyBool ⟨fun h1 => ?_, fun h1 => ?_⟩)))))))
      · have h1 := of_decide_eq_true h1
        refine W_andCons (W_isTrueCompare (W_local rfl (W_CallName (W_builtin rfl rfl (W_callWithB (W_argsCons (W_local rfl (W_argsNil (W_lenL rt (by omega) fun t3 => W_lt (W_truthyBool ⟨fun h2 => ?_, fun h2 => ?_⟩))))))))))
        · have h2 := of_decide_eq_true h2
          refine W_andNil ⟨fun _ => ?_, fun e => (nomatch e)⟩
          have hnt : n < text.length := by omega
          have hci : text[n]? = some text[n] := by simp [hnt]
          obtain ⟨tc, htc⟩ := hti.get n _ hci
          refine W_cons (W_Expr (W_CallMeth (W_local rfl (W_mL PySem.F.slot_list_extend (.inl (.head _)) ?_))))
          refine W_callWithB (W_argsCons (W_CallName (W_global (v := .ref 234) rfl (W_callWithF rfl (W_argsCons (W_Subscript (W_local rfl (W_local rfl (W_itemL rt (by omega (config := {})) (by simpa using htc) (by omega (config := {})) ?_)))))))))
          refine W_argsCons (W_local rfl (W_argsCons (W_local rfl (W_argsNil ?_))))
          have hc0 : 0 ≤ text[n] := hc _ (List.getElem_mem ..)
          refine W_call0 ((fold_of_spec hH hc0).le (by decide)) (fun g' S => ⟨fun b o e => S.keep _ _ (hG _ _ e), hst.keeps S.keep⟩) fun v F g' h' S1 k S2 hv => ?_
          obtain ⟨q, rfl, hq⟩ := hv
          obtain ⟨oq, hoq, qvs, hqi, hqt⟩ := id hq.1
          have hq' : New H g' h' q (tup qvs) := ⟨⟨_, hoq, hqt⟩, hq.2⟩
          refine ⟨_, _, _, S2.pinNew S1 hG hq', ?_⟩
          have l2 := hsh.len ss text[n]
          have l4 := hqi.length
          refine W_argsNil (W_extendT (.head) (.inr (.inl (.head _))) (by omega) ?_)
          refine W_cons (W_AugName (W_loadLocal rfl (W_int fun t4 => W_iadd fun t5 => W_store (W_nil ?_)) rfl rfl rfl))
          refine ⟨⟨known ++ foldS f ss text[n], _, n + 1, t5, hk.append hqi, by rw [List.length_append]; omega, rfl, rfl, by omega, ?_⟩, text.length - (n + 1), by omega, n + 1, t5, rfl, rfl⟩
          rw [he, List.drop_eq_getElem_cons hnt]
          conv => lhs; unfold eat
          rw [if_pos (by omega)]
        · have h2 := of_decide_eq_false h2
          refine ⟨fun e => (nomatch e), fun _ => ⟨known, kvs, n, tp, hk, rfl, rfl, n, rfl, ?_⟩⟩
          rw [he]
          exact eat_stop fun q => q.2 (List.drop_eq_nil_of_le (by omega))
      · have h1 := of_decide_eq_false h1
        refine ⟨fun e => (nomatch e), fun _ => ⟨known, kvs, n, tp, hk, rfl, rfl, n, rfl, ?_⟩⟩
        rw [he]
        exact eat_stop fun q => absurd q.1 (by omega)
  · rintro P N m ⟨known, kvs, place, tp, hk, rfl, rfl, n, rfl, he⟩
    refine W_cons (W_Return (W_IfExp (W_isTrueCompare (W_local rfl (W_local rfl ?_)))))
    refine W.st (P' := P) (N' := [(r, lstI known)]) ?_ fun h S => S.nimp fun o y => ⟨kvs, hk, y⟩
    refine W_eqLL (.inl (.head _)) (.inr (.inr hg)) (W_truthyBool ⟨fun h1 => ?_, fun h1 => ?_⟩)
    · have h1 := of_decide_eq_true h1
      refine W_local rfl fun h S => ⟨_, S.subP fun _ h => (nomatch h), Ends.nil, ?_⟩
      unfold endOf
      rw [he]
      dsimp only
      rw [if_pos h1]
      exact ⟨tp, rfl⟩
    · have h1 := of_decide_eq_false h1
      refine W_none fun h S => ⟨_, S.subP fun _ h => (nomatch h), Ends.nil, ?_⟩
      unfold endOf
      rw [he]
      dsimp only
      rw [if_neg h1]
      rfl
end Nt
end
section
open PySem PySem.W PyProof.Rows PySem.Calls
set_option maxRecDepth 100000
set_option autoImplicit false
set_option linter.unusedVariables false
namespace Nt
/-- the values are pairs whose tuples lie on the ledger -/
noncomputable def PL (ps : List (Int × Int)) (vs : List Value) (T : Led) : Prop := All2 (fun v p => ∃ t, v = .ref t ∧ (t, tupI [p.1, p.2]) ∈ T) vs ps
theorem All2.app {α β : Type} {R : α → β → Prop} {as as' : List α} {bs bs' : List β} (x : All2 R as bs) (y : All2 R as' bs') : All2 R (as ++ as') (bs ++ bs') := by
  induction x with
  | nil => exact y
  | cons h _ ih => exact .cons h ih
theorem PL.add {ps : List (Int × Int)} {vs : List Value} {T : Led} (x : PL ps vs T) {t : Addr} {a b : Int} : PL (ps ++ [(a, b)]) (vs ++ [.ref t]) ((t, tupI [a, b]) :: T) :=
  All2.app (All2.mono (fun _ _ ⟨t, e, h⟩ => ⟨t, e, .tail _ h⟩) x) (.cons ⟨t, rfl, .head _⟩ .nil)
theorem eat_grows {f : Int → Option Row} {ss : List Str} {goal : List Int} : ∀ {rest known : List Int} {place : Nat}, place ≤ (eat f ss goal rest known place).2 ∧ (eat f ss goal rest known place).2 ≤ place + rest.length
  | [], known, place => ⟨Nat.le_refl _, Nat.le_refl _⟩
  | c :: r, known, place => by
    unfold eat
    split
    · have := @eat_grows f ss goal r (known ++ foldS f ss c) (place + 1)
      rw [List.length_cons]
      omega
    · dsimp only; omega
theorem endOf_range {f : Int → Option Row} {ss : List Str} {goal text : List Int} {a e : Nat} (h : endOf f ss goal text a = some e) (hg : goal ≠ []) (ha : a < text.length) : a < e ∧ e ≤ text.length := by
  unfold endOf at h
  dsimp only at h
  split at h
  · rw [List.drop_eq_getElem_cons ha] at h
    unfold eat at h
    rw [if_pos (by simp; exact List.length_pos_iff.mpr hg)] at h
    have := @eat_grows f ss goal (text.drop (a + 1)) ([] ++ foldS f ss text[a]) (a + 1)
    rw [List.length_drop] at this
    cases h
    omega
  · cases h
noncomputable def findGo (f : Int → Option Row) (ss : List Str) (goal text : List Int) (a : Nat) : List (Int × Int) :=
  if h : a < text.length ∧ goal ≠ [] then
    match endOf f ss goal text a with
    | none => findGo f ss goal text (a + 1)
    | some e => if h2 : a < e then ((a : Int), (e : Int)) :: findGo f ss goal text e else []
  else []
termination_by text.length - a
inductive I6_1 (turk : Bool) (f : Int → Option Row) (text : List Int) (part : List Int) (v : Value) (N' : Led) : Prop
  | mk (r : Addr) (vs : List Value) (T : Led) (hh1 : v = .ref r) (hh2 : N' = T ++ [(r, lst vs)]) (hh3 : PL (findGo f (stsOf true turk) (txt f (stsOf true turk) part) text 0) vs T)
inductive I6_2 (x : Addr) (tx : Addr) (px : Addr) (turk : Bool) (f : Int → Option Row) (text : List Int) (ss : List Str) (goal : List Int) (gx : Addr) (st : Addr) (r : Addr) (N : Led) (m : Vars) : Prop
  | mk (vs : List Value) (T : Led) (u : Option Value) (k : Value) (hh1 : N = T ++ [(r, lst vs)]) (hh2 : PL (findGo f ss goal text 0) vs T) (hh3 : m = ([("text", some (.ref tx)), ("part", some (.ref px)), ("data", some (.ref x)), ("is_turkic", some (.bool turk)), ("goal", some (.ref gx)), ("statuses", some (.ref st)), ("found", some (.ref r)), ("at", some k), ("end", u)] : Vars))
inductive I6_3 (x : Addr) (tx : Addr) (px : Addr) (turk : Bool) (f : Int → Option Row) (text : List Int) (ss : List Str) (goal : List Int) (gx : Addr) (st : Addr) (r : Addr) (N : Led) (m : Vars) : Prop
  | mk (vs : List Value) (T : Led) (ps : List (Int × Int)) (n : Nat) (tn : Tok) (u : Option Value) (hh1 : N = T ++ [(r, lst vs)]) (hh2 : PL ps vs T) (hh3 : ps.length ≤ n) (hh4 : n ≤ text.length) (hh5 : ps ++ findGo f ss goal text n = findGo f ss goal text 0) (hh6 : m = ([("text", some (.ref tx)), ("part", some (.ref px)), ("data", some (.ref x)), ("is_turkic", some (.bool turk)), ("goal", some (.ref gx)), ("statuses", some (.ref st)), ("found", some (.ref r)), ("at", some (.int (n : Nat) tn)), ("end", u)] : Vars))
inductive I6_4 (x : Addr) (tx : Addr) (px : Addr) (turk : Bool) (text : List Int) (gx : Addr) (st : Addr) (r : Addr) (m : Vars) (k : Nat) : Prop
  | mk (n : Nat) (tn : Tok) (u : Option Value) (hh1 : k = text.length - n) (hh2 : m = ([("text", some (.ref tx)), ("part", some (.ref px)), ("data", some (.ref x)), ("is_turkic", some (.bool turk)), ("goal", some (.ref gx)), ("statuses", some (.ref st)), ("found", some (.ref r)), ("at", some (.int (n : Nat) tn)), ("end", u)] : Vars))
theorem fold_find_spec {w : World} {x tx px : Addr} {turk : Bool} {f : Int → Option Row} {H : Heap} {text part : List Int} (hH : DataAt w H x f) (hsh : Short f) (hlen : text.length ≤ 300) (hplen : part.length ≤ 300) (hc : ∀ c ∈ text, 0 ≤ c) (hpc : ∀ c ∈ part, 0 ≤ c) :
    Fn w 12 (.ref 359) [.ref tx, .ref px, .ref x, .bool turk] [] (fun G => Le H G ∧ Has G tx (lstI text) ∧ Has G px (lstI part))
      (fun _ v N' _ => (I6_1 turk f text part v N')) := by
  refine Fn.of_body (names := ["text", "part", "data", "is_turkic", "goal", "statuses", "found", "at", "end"]) (m₀ := [("text", some (.ref tx)), ("part", some (.ref px)), ("data", some (.ref x)), ("is_turkic", some (.bool turk)), ("goal", none), ("statuses", none), ("found", none), ("at", none), ("end", none)]) rfl rfl (fun _ X => binds_K X rfl rfl rfl rfl rfl) rfl rfl rfl ?_
  intro G L B ⟨hG, ht, hp⟩
  refine W.letE ?_
  intro en0 Qf0
  generalize hss : stsOf true turk = ss
  generalize hgoal : txt f ss part = goal
  have hgl : goal.length ≤ 1000 := by rw [← hgoal]; have := txt_length hsh (ss := ss) part; omega
  obtain ⟨otx, hotx, tvs, hti, htl⟩ := id ht
  have rt : ∀ {P N : Led}, Rd G P N tx (lst tvs) := .inr (.inr ⟨_, hotx, htl⟩)
  have hl1 := hti.length
  refine W_cons (W_Swap2 (W_argsCons (W_CallName (W_global (v := .ref 264) rfl (W_callWithF rfl (W_argsCons (W_local rfl (W_argsCons (W_local rfl (W_argsCons (W_local rfl (W_argsNil ?_))))))))))))
  refine W_call (N0 := []) ((fold_full_spec hH hsh (by omega) hpc).le (by decide)) (fun g S => ⟨fun b o e => S.keep _ _ (hG _ _ e), hp.keeps S.keep⟩) fun v N' g h' S1 k S2 _ ⟨gx, e, e2⟩ => ?_
  subst e e2
  rw [hss, hgoal] at S2
  refine ⟨_, _, _, S2.freeze, ?_⟩
  refine W_argsCons (W_CallName (W_global (v := .ref 241) rfl (W_callWithF rfl (W_argsCons (W_boolC (W_argsCons (W_local rfl (W_argsNil ?_))))))))
  refine W_call0 (fold_statuses_spec.le (by decide)) (fun _ _ => trivial) fun v F g' h' S1 k S2 ⟨st, e, hr, hst⟩ => ⟨_, _, _, S2.pin hst (S1.fresh hr).1 (S1.fresh hr).2.1, ?_⟩
  subst e
  rw [hss]
  refine W_argsNil ⟨_, _, rfl, W_store (W_store ?_)⟩
  refine W_cons (W_Swap2 (W_argsCons (W_List (W_argsNil (W_newList (by rw [sizeLine_eq]; simp) fun r => ?_)))))
  refine W_argsCons (W_int fun t0 => (W_argsNil ⟨_, _, rfl, W_store (W_store ?_)⟩))
  refine W_cut (fun P N m => (I6_2 x tx px turk f text ss goal gx st r N m)) ?_ ?_
  · refine W_While (fun P N m => (gx, lstI goal) ∈ P ∧ (st, tupS ss) ∈ P ∧ (I6_3 x tx px turk f text ss goal gx st r N m))
      (fun P N m k => (I6_4 x tx px turk text gx st r m k)) ?_ ?_ ?_
    · exact ⟨.tail _ (.head _), .head _, [], [], [], 0, t0, none, rfl, .nil, Nat.le_refl _, Nat.zero_le _, rfl, rfl⟩
    · rintro P N m ⟨_, _, vs, T, ps, n, tn, u, _, _, _, _, _, rfl⟩
      exact ⟨_, n, tn, u, rfl, rfl⟩
    · rintro P N m k ⟨hgx, hstP, vs, T, ps, n, tn, u, rfl, hpl, hpn, hn, he, rfl⟩ ⟨_, _, _, rfl, e⟩
      cases e
      have hvl : vs.length = ps.length := All2.length hpl
      refine W_isTrueAnd (W_andCons (W_isTrueCompare (W_local rfl (W_CallName (W_builtin rfl rfl (W_callWithB (W_argsCons (W_local rfl (W_argsNil (W_lenL rt (by omega) fun t1 => W_lt (W_truthyBool ⟨fun h1 => ?_, fun h1 => ?_⟩)))))))))))
      · have h1 := of_decide_eq_true h1
        have hnt : n < text.length := by omega
        refine W_andCons (W_isTrueCompare (W_local rfl (W_List (W_argsNil (W_newList (by rw [sizeLine_eq]; simp) fun r2 => ?_)))))
        refine W.st (P' := P) (N' := (r2, lstI []) :: (T ++ [(r, lst vs)])) ?_ fun h S => S.nimp fun o y => lstI_nil y
        refine W_neLL (.inr (.inl hgx)) (.inl (.head _)) (W_truthyBool ⟨fun h2 => ?_, fun h2 => ?_⟩)
        · have h2 : goal ≠ [] := by simpa using h2
          refine W.st (P' := P) (N' := T ++ [(r, lst vs)]) ?_ fun h S => S.dropN
          refine W_andNil ⟨fun _ => ?_, fun e => (nomatch e)⟩
          refine W_cons (W_AssignName (W_CallName (W_global (v := .ref 366) rfl (W_callWithF rfl (W_argsCons (W_local rfl (W_argsCons (W_local rfl (W_argsCons (W_local rfl (W_argsCons (W_local rfl (W_argsCons (W_local rfl (W_argsNil ?_)))))))))))))))
          refine W_call0ES ((fold_end_spec hH hsh (by omega) hgl hc (by omega)).le (by decide)) (fun g' S => ⟨fun b o e => S.keep _ _ (hG _ _ e), ht.keeps S.keep, (S.ps _ hgx).1, (S.ps _ hstP).1⟩) fun v F g' h' hv => ?_
          refine W_store ?_
          refine W_cons (W_If (W_isTrueCompare (W_local rfl (W_none ?_))))
          have hfg := findGo.eq_1 f ss goal text n
          rw [dif_pos ⟨hnt, h2⟩] at hfg
          cases hE : endOf f ss goal text n with
          | none =>
            rw [hE] at hv hfg
            dsimp only at hfg
            obtain rfl : v = .none := hv
            refine W_is rfl (W_truthyBool ⟨fun _ => ?_, fun e => nomatch e⟩)
            refine W_cons (W_AugName (W_loadLocal rfl (W_int fun t4 => W_iadd fun t5 => W_store (W_nil (W_nil ?_))) rfl rfl rfl))
            exact ⟨⟨hgx, hstP, vs, T, ps, n + 1, t5, _, rfl, hpl, by omega, by omega, by rw [← hfg]; exact he, rfl⟩, text.length - (n + 1), by omega, n + 1, t5, _, rfl, rfl⟩
          | some e =>
            have hr := endOf_range hE h2 hnt
            rw [hE] at hv hfg
            dsimp only at hfg
            rw [dif_pos hr.1] at hfg
            obtain ⟨te, rfl⟩ := hv
            refine W_is rfl (W_truthyBool ⟨fun e => (nomatch e), fun _ => ?_⟩)
            refine W_cons (W_Expr (W_CallMeth (W_local rfl (W_mL (vs := vs) PySem.F.slot_list_append (.inl (List.mem_append_right _ (.head _))) ?_))))
            refine W_callWithB (W_argsCons (W_Tuple (W_argsCons (W_local rfl (W_argsCons (W_local rfl (W_argsNil (W_newTupleN (by rw [sizeLine_eq]; simp) fun q => W_argsNil ?_))))))))
            refine W.st (P' := P) (N' := (q, tupI [(n : Int), (e : Int)]) :: (T ++ [(r, lst vs)])) ?_ fun h S => S.nimp fun o y => ⟨_, .cons _ _ (.cons _ _ .nil), y⟩
            refine W_append (.tail (Upd.app .head T)) (by rw [sizeLine_eq]; omega) ?_
            refine W_cons (W_AssignName (W_local rfl (W_store (W_nil (W_nil ?_)))))
            exact ⟨⟨hgx, hstP, _, _ :: T, ps ++ [((n : Int), (e : Int))], e, te, _, rfl, PL.add hpl, by rw [List.length_append]; simp; omega, hr.2, by rw [List.append_assoc, ← he, hfg]; rfl, rfl⟩, text.length - e, by omega, e, te, _, rfl, rfl⟩
        · have h2 : goal = [] := by simpa using h2
          refine ⟨fun e => (nomatch e), fun _ => ?_⟩
          have hfg := findGo.eq_1 f ss goal text n
          rw [dif_neg (fun q => q.2 h2)] at hfg
          rw [hfg, List.append_nil] at he
          exact ⟨vs, _ :: T, u, _, rfl, he ▸ All2.mono (fun _ _ ⟨t, e, h⟩ => ⟨t, e, .tail _ h⟩) hpl, rfl⟩
      · have h1 := of_decide_eq_false h1
        refine ⟨fun e => (nomatch e), fun _ => ⟨vs, T, u, _, rfl, ?_, rfl⟩⟩
        have hfg := findGo.eq_1 f ss goal text n
        rw [dif_neg (fun q => by omega)] at hfg
        rw [hfg, List.append_nil] at he
        rw [← he]; exact hpl
  · rintro P N m ⟨vs, T, u, k, rfl, hpl, rfl⟩
    exact W_cons (W_Return (W_local rfl fun h S => ⟨_, S.subP fun _ h => (nomatch h), Ends.nil, r, vs, T, rfl, rfl, by rw [hss, hgoal]; exact hpl⟩))
end Nt
end
section
open PySem PySem.W PyProof.Rows PySem.Calls
set_option maxRecDepth 100000
set_option autoImplicit false
set_option linter.unusedVariables false
namespace Nt
/-- the dict told, by the codes -/
noncomputable def ToldAt (w : World) (h : Heap) (a : Addr) (f : Int → Option Row) : Prop := ∃ kvs, (a == sysModules) = false ∧ Has h a (dk (intKind prg w) kvs) ∧ ∀ c, match f c with
  | none => valueAt kvs c = none
  | some r => ∃ v, valueAt kvs c = some v ∧ RowAt w h v r
theorem ToldAt.keeps {w : World} {h h' : Heap} {a : Addr} {f : Int → Option Row} (k : Le h h') (x : ToldAt w h a f) : ToldAt w h' a f := by
  obtain ⟨kvs, n, hk, hv⟩ := x
  refine ⟨kvs, n, hk.keeps k, fun c => ?_⟩
  have := hv c
  cases q : f c with
  | none => rw [q] at this; exact this
  | some r => rw [q] at this; exact let ⟨v, e, hr⟩ := this; ⟨v, e, hr.keeps k⟩
theorem pickF_hit {row : Row} {p : Str → Bool} : ∀ {ss : List Str} {i : Nat} {s : Str} {ks : List Int}, (∀ j, j < i → ∀ y, ss[j]? = some y → p y = false ∨ row.lookup y = none) → ss[i]? = some s → p s = true → row.lookup s = some ks → pick row (ss.filter p) = some ks
  | [], i, s, ks, _, h, _, _ => by simp at h
  | x :: r, 0, s, ks, _, h, hp, e => by
    obtain rfl : x = s := by simpa using h
    rw [List.filter_cons_of_pos hp]
    unfold pick; rw [e]
  | x :: r, i + 1, s, ks, a, h, hp, e => by
    have ih := pickF_hit (ss := r) (i := i) (fun j hj y hy => a (j + 1) (Nat.succ_lt_succ hj) y (by simpa using hy)) (by simpa using h) hp e
    rw [List.filter_cons]
    split
    · unfold pick
      rcases a 0 (Nat.succ_pos _) x rfl with q | q
      · simp_all
      · rw [q]; exact ih
    · exact ih
theorem pickF_miss {row : Row} {p : Str → Bool} : ∀ {ss : List Str}, (∀ j, j < ss.length → ∀ y, ss[j]? = some y → p y = false ∨ row.lookup y = none) → pick row (ss.filter p) = none
  | [], _ => rfl
  | x :: r, a => by
    have ih := pickF_miss (ss := r) fun j hj y hy => a (j + 1) (Nat.succ_lt_succ hj) y (by simpa using hy)
    rw [List.filter_cons]
    split
    · unfold pick
      rcases a 0 (Nat.succ_pos _) x rfl with q | q
      · simp_all
      · rw [q]; exact ih
    · exact ih
noncomputable def sts3 (full : Bool) : List Str := ["T", if full then "F" else "S", "C"]
noncomputable def onT (turk : Bool) (s : Str) : Bool := s != "T" || turk
theorem stsOf_filter (full turk : Bool) : (sts3 full).filter (onT turk) = stsOf full turk := by
  cases full <;> cases turk <;> decide
theorem pick_nil : ∀ ss : List Str, pick [] ss = none
  | [] => rfl
  | _ :: r => pick_nil r
inductive I7_1 (w : World) (code : Int) (f : Int → Option Row) (H : Heap) (G : Heap) (kvs : List (Int × Value)) (e : Addr) : Prop
  | mk (a : Addr) (rk : List (Str × Value)) (r : Row) (hh1 : (valueAt kvs code).getD (.ref e) = .ref a) (hh2 : (a == sysModules) = false) (hh3 : RowKv H rk r) (hh4 : (∀ (G' : Heap) (P : Led), Le G G' → Rd G' P [(e, dk (strKind prg w) [])] a (dk (strKind prg w) rk))) (hh5 : ∀ ss, foldS f ss code = (pick r ss).getD [code])
inductive I7_2 (full : Bool) (i : Nat) (vi : Value) : Prop
  | mk (s : Str) (ts : Tok) (hh1 : (sts3 full)[i]? = some s) (hh2 : vi = .str s ts)
theorem law_folded_spec {w : World} {x : Addr} {code : Int} {tc : Tok} {full turk : Bool} {f : Int → Option Row} {H : Heap} (hH : ToldAt w H x f) :
    Fn w 8 (.ref 442) [.ref x, .int code tc, .bool full, .bool turk] [] (fun G => Le H G) (fun G v _ h' => ∃ r, v = .ref r ∧ New H G h' r (tupI (foldS f (stsOf full turk) code))) := by
  refine Fn.of_body (names := ["told", "code", "is_full", "is_turkic", "row", "status"]) (m₀ := [("told", some (.ref x)), ("code", some (.int code tc)), ("is_full", some (.bool full)), ("is_turkic", some (.bool turk)), ("row", none), ("status", none)]) rfl rfl (fun _ _ => .of_eq rfl) rfl rfl rfl ?_
  intro G L B hG
  refine W.letE ?_
  intro en0 Qf0
  obtain ⟨kvs, hne, hk, hv⟩ := hH
  have rd : ∀ {P N : Led} {a : Addr} {p : OP}, Has H a p → Rd G P N a p := fun h => .inr (.inr (h.keeps hG))
  refine W_cons (W_AssignName (W_CallMeth (W_local rfl (W_mGetD (rd hk) (W_callWithB (W_argsCons (W_local rfl (W_argsCons (W_DictEmpty (strKind prg w) fun e he => W_argsNil (W_getD2 (isI w _ _) (rd hk) hne (W_store ?_)))))))))))
  -- the row: an object, its entries, where it may be read
  have row : (I7_1 w code f H G kvs e) := by
    have := hv code
    cases q : f code with
    | none =>
      rw [q] at this
      dsimp only at this
      exact ⟨e, [], [], by rw [this]; rfl, he, .nil, fun _ _ _ => .inl (.head _), fun ss => by unfold foldS; rw [q, pick_nil]; rfl⟩
    | some r =>
      rw [q] at this
      obtain ⟨v, e1, a, rk, rfl, hn, ha, hr⟩ := this
      exact ⟨a, rk, r, by rw [e1]; rfl, hn, hr, fun G' P le => .inr (.inr ((ha.keeps hG).keeps le)), fun ss => by unfold foldS; rw [q]⟩
  obtain ⟨a, rk, r, hval, han, hrk, hrd, hfold⟩ := row
  rw [hval]
  refine W_cut (fun P N m => N = [(e, dk (strKind prg w) [])] ∧ pick r (stsOf full turk) = none ∧ ∃ u, m = ([("told", some (.ref x)), ("code", some (.int code tc)), ("is_full", some (.bool full)), ("is_turkic", some (.bool turk)), ("row", some (.ref a)), ("status", u)] : Vars)) ?_ ?_
  · refine W_ForG (W_Tuple (W_argsCons (W_str fun t1 => W_argsCons (W_IfExp (W_isTrueName (W_local rfl (W_truthyBool ⟨?_, ?_⟩)))))))
    all_goals
      intro efull
      refine W_str fun t2 => W_argsCons (W_str fun t3 => W_argsNil (W_newTuple (by rw [sizeLine_eq]; simp) fun st hst => ?_))
      refine ⟨_, _, fun i N m => N = [(e, dk (strKind prg w) [])] ∧ (∀ j, j < i → ∀ y, (sts3 full)[j]? = some y → onT turk y = false ∨ r.lookup y = none) ∧ ∃ u, m = ([("told", some (.ref x)), ("code", some (.int code tc)), ("is_full", some (.bool full)), ("is_turkic", some (.bool turk)), ("row", some (.ref a)), ("status", u)] : Vars), .tuple (.inl (.head _)), ⟨rfl, fun j hj => absurd hj (Nat.not_lt_zero _), none, rfl⟩, ?_, ?_⟩
      · rintro G' le i vi N m hi hvi ⟨rfl, hpast, u, rfl⟩
        obtain ⟨s, ts, hs, rfl⟩ : (I7_2 full i vi) := by
          subst efull
          match i, hvi with
          | 0, h => exact ⟨_, _, rfl, by simpa using h.symm⟩
          | 1, h => exact ⟨_, _, rfl, by simpa using h.symm⟩
          | 2, h => exact ⟨_, _, rfl, by simpa using h.symm⟩
        refine W_assignName (W_store ?_)
        have skip : ∀ {P : Led}, (onT turk s = false ∨ r.lookup s = none) → ∀ j, j < i + 1 → ∀ y, (sts3 full)[j]? = some y → onT turk y = false ∨ r.lookup y = none := by
          intro P h j hj y hy
          by_cases q : j = i
          · subst q; rw [hs] at hy; cases hy; exact h
          · exact hpast j (by omega) y hy
        have hrv := hrk.value s
        refine W_cons (W_If (W_isTrueAnd (W_andCons (W_isTrueCompare (W_local rfl (W_local rfl (W_inD (isS w _ _) (hrd G' _ le) han (W_truthyBool ⟨fun h1 => ?_, fun h1 => ?_⟩))))))))
        · refine W_andCons (W_isTrueOr (W_orCons (W_isTrueCompare (W_local rfl (W_str fun t4 => W_neS (W_truthyBool ⟨fun h2 => ?_, fun h2 => ?_⟩))))))
          · refine W_orCons (W_isTrueName (W_local rfl (W_truthyBool ⟨fun h3 => ?_, fun h3 => ?_⟩)))
            · refine W_orNil ⟨fun e => (nomatch e), fun _ => ⟨fun e => (nomatch e), fun _ => W_nil (W_nil ⟨fun _ h => h, rfl, skip (P := []) (.inl ?_), _, rfl⟩)⟩⟩
              unfold onT; rw [h2, h3]; rfl
            · refine ⟨fun _ => W_andNil ⟨fun _ => ?_, fun e => (nomatch e)⟩, fun e => (nomatch e)⟩
              have hT : onT turk s = true := by unfold onT; rw [h3, Bool.or_true]
              cases q : r.lookup s with
              | none => rw [q] at hrv; dsimp only at hrv; rw [hrv] at h1; cases h1
              | some ks =>
                rw [q] at hrv
                obtain ⟨t, hvt, ht⟩ := hrv
                refine W_cons (W_Return (W_Subscript (W_local rfl (W_local rfl (W_itemD (isS w _ _) (hrd G' _ le) hvt ?_)))))
                refine fun h S => ⟨_, S.subP (fun _ h => nomatch h), Ends.nil, t, rfl, ?_⟩
                have ef : foldS f (stsOf full turk) code = ks := by rw [hfold, ← stsOf_filter, pickF_hit hpast hs hT q]; rfl
                rw [ef]
                exact ⟨(ht.keeps hG).keeps S.keep, .inr (let ⟨o, ho, _⟩ := ht; ⟨o, ho⟩)⟩
          · refine ⟨fun _ => W_andNil ⟨fun _ => ?_, fun e => (nomatch e)⟩, fun e => (nomatch e)⟩
            have hT : onT turk s = true := by unfold onT; rw [h2]; rfl
            cases q : r.lookup s with
            | none => rw [q] at hrv; dsimp only at hrv; rw [hrv] at h1; cases h1
            | some ks =>
              rw [q] at hrv
              obtain ⟨t, hvt, ht⟩ := hrv
              refine W_cons (W_Return (W_Subscript (W_local rfl (W_local rfl (W_itemD (isS w _ _) (hrd G' _ le) hvt ?_)))))
              refine fun h S => ⟨_, S.subP (fun _ h => nomatch h), Ends.nil, t, rfl, ?_⟩
              have ef : foldS f (stsOf full turk) code = ks := by rw [hfold, ← stsOf_filter, pickF_hit hpast hs hT q]; rfl
              rw [ef]
              exact ⟨(ht.keeps hG).keeps S.keep, .inr (let ⟨o, ho, _⟩ := ht; ⟨o, ho⟩)⟩
        · refine ⟨fun e => (nomatch e), fun _ => W_nil (W_nil ⟨fun _ h => h, rfl, skip (P := []) (.inr ?_), _, rfl⟩)⟩
          cases q : r.lookup s with
          | none => rfl
          | some ks => rw [q] at hrv; obtain ⟨t, e, _⟩ := hrv; rw [e] at h1; cases h1
      · rintro N m ⟨rfl, hpast, u, rfl⟩
        refine ⟨rfl, ?_, u, rfl⟩
        rw [← stsOf_filter]
        exact pickF_miss hpast
  · rintro P N m ⟨rfl, hp, u, rfl⟩
    refine W_cons (W_Return (W_Tuple (W_argsCons (W_local rfl (W_argsNil (W_newTuple (by rw [sizeLine_eq]; simp) fun r hr => ?_))))))
    refine fun h S => ⟨_, S.subP (fun _ h => nomatch h), Ends.nil, r, rfl, ?_⟩
    rw [hfold, hp]
    obtain ⟨o, ho, n, rfl⟩ := (S.ps _ (.head _)).1
    exact ⟨⟨_, ho, _, .cons _ _ .nil, n, rfl⟩, .inl hr⟩
end Nt
end
section
open PySem PySem.W PyProof.Rows PySem.Calls
set_option maxRecDepth 100000
set_option autoImplicit false
set_option linter.unusedVariables false
namespace Nt
theorem law_text_spec {w : World} {x tx : Addr} {full turk : Bool} {f : Int → Option Row} {H : Heap} {text : List Int} (hH : ToldAt w H x f) (hsh : Short f) (hlen : text.length ≤ 1000) :
    Fn w 9 (.ref 449) [.ref x, .ref tx, .bool full, .bool turk] [] (fun G => Le H G ∧ Has G tx (lstI text)) (fun _ v N' _ => ∃ r, v = .ref r ∧ N' = [(r, lstI (txt f (stsOf full turk) text))]) := by
  refine Fn.of_body (names := ["told", "text", "is_full", "is_turkic", "found", "code"]) (m₀ := [("told", some (.ref x)), ("text", some (.ref tx)), ("is_full", some (.bool full)), ("is_turkic", some (.bool turk)), ("found", none), ("code", none)]) rfl rfl (fun _ _ => .of_eq rfl) rfl rfl rfl ?_
  intro G L B ⟨hG, ht⟩
  generalize hss : stsOf full turk = ss
  obtain ⟨otx, hotx, tvs, hti, htl⟩ := ht
  refine W_cons (W_AssignName (W_List (W_argsNil (W_newList (by rw [sizeLine_eq]; simp) fun r => W_store ?_))))
  refine W_cut (fun P N m => ∃ vs, IntsAre vs (txt f ss text) ∧ N = [(r, lst vs)] ∧ ∃ u, m = ([("told", some (.ref x)), ("text", some (.ref tx)), ("is_full", some (.bool full)), ("is_turkic", some (.bool turk)), ("found", some (.ref r)), ("code", u)] : Vars)) ?_ ?_
  · refine W_For [] tvs.length (fun (i : Nat) (v : Value) => tvs[i]? = some v) (fun i N m => ∃ vs, IntsAre vs (txt f ss (text.take i)) ∧ N = [(r, lst vs)] ∧ ∃ u, m = ([("told", some (.ref x)), ("text", some (.ref tx)), ("is_full", some (.bool full)), ("is_turkic", some (.bool turk)), ("found", some (.ref r)), ("code", u)] : Vars)) ?_ ?_ ?_
    · exact W_local rfl ⟨rfl, .list (.inr ⟨_, hotx, htl⟩), [], .nil, rfl, none, rfl⟩
    · rintro G' le i vi N m hi hvi ⟨vs, hvs, rfl, u, rfl⟩
      obtain ⟨c, tc, hci, rfl⟩ := IntsAre.getV hti hvi
      refine W_assignName (W_store ?_)
      refine W_cons (W_Expr (W_CallMeth (W_local rfl (W_mL PySem.F.slot_list_extend (.inl (.head _)) ?_))))
      refine W_callWithB (W_argsCons (W_CallName (W_global (v := .ref 442) rfl (W_callWithF rfl (W_argsCons (W_local rfl (W_argsCons (W_local rfl (W_argsCons (W_local rfl (W_argsCons (W_local rfl (W_argsNil ?_)))))))))))))
      refine W_call0 ((law_folded_spec hH).le (by decide)) (fun g' S b o e => S.keep _ _ (le _ _ (hG _ _ e))) fun v F g' h' S1 k S2 hv => ?_
      obtain ⟨q, rfl, hq⟩ := hv
      rw [hss] at hq
      obtain ⟨oq, hoq, qvs, hqi, hqt⟩ := id hq.1
      have hq' : New H g' h' q (tup qvs) := ⟨⟨_, hoq, hqt⟩, hq.2⟩
      refine ⟨_, _, _, S2.pinNew S1 (fun b o e => le _ _ (hG _ _ e)) hq', ?_⟩
      have l1 := txt_length hsh (ss := ss) (text.take i)
      have l2 := hsh.len ss c
      have l3 := hvs.length
      have l4 := hqi.length
      have l5 : (text.take i).length ≤ text.length := (List.take_sublist ..).length_le
      refine W_argsNil (W_extendT (.head) (.inr (.inl (.head _))) (by omega) ?_)
      refine W_nil ⟨fun _ h => (nomatch h), _, ?_, rfl, _, rfl⟩
      rw [txt_take hci]
      exact hvs.append hqi
    · rintro N m ⟨vs, hvs, rfl, u, rfl⟩
      have e : text.take tvs.length = text := by rw [hti.length, List.take_length]
      rw [e] at hvs
      exact ⟨vs, hvs, rfl, u, rfl⟩
  · rintro P N m ⟨vs, hvs, rfl, u, rfl⟩
    refine W_cons (W_Return (W_local rfl fun h S => ⟨_, (S.subP (P' := []) (fun _ h => (nomatch h))).nimp fun o y => ⟨vs, hvs, y⟩, Ends.nil, r, rfl, rfl⟩))
/-- the ends that the law tries at a place -/
noncomputable def endsOf (f : Int → Option Row) (ss : List Str) (goal text : List Int) (a n : Nat) : List Int := (List.range n).filterMap fun j => if txt f ss ((text.drop a).take (j + 1)) = goal then some ((a : Int) + 1 + j) else none
noncomputable def lawGo (f : Int → Option Row) (ss : List Str) (b : Bool) (goal text : List Int) (a : Nat) : List (Int × Int) :=
  if h : a < text.length then
    match endsOf f ss goal text a (text.length - a) with
    | e :: _ => if h2 : a < e.toNat ∧ b = true then ((a : Int), e) :: lawGo f ss b goal text e.toNat else lawGo f ss b goal text (a + 1)
    | [] => lawGo f ss b goal text (a + 1)
  else []
termination_by text.length - a
theorem endsOf_succ {f : Int → Option Row} {ss : List Str} {goal text : List Int} {a n : Nat} : endsOf f ss goal text a (n + 1) = endsOf f ss goal text a n ++ (if txt f ss ((text.drop a).take (n + 1)) = goal then [(a : Int) + 1 + n] else []) := by
  unfold endsOf
  rw [List.range_succ, List.filterMap_append]
  congr 1
  simp only [List.filterMap_cons, List.filterMap_nil]
  split <;> simp_all
theorem endsOf_mem {f : Int → Option Row} {ss : List Str} {goal text : List Int} {a n : Nat} {e : Int} (h : e ∈ endsOf f ss goal text a n) : (a : Int) < e ∧ e ≤ a + n := by
  unfold endsOf at h
  rw [List.mem_filterMap] at h
  obtain ⟨j, hj, e'⟩ := h
  rw [List.mem_range] at hj
  split at e'
  · cases e'; omega
  · cases e'
inductive I8_1 (turk : Bool) (f : Int → Option Row) (text : List Int) (part : List Int) (v : Value) (N' : Led) : Prop
  | mk (r : Addr) (vs : List Value) (T : Led) (hh1 : v = .ref r) (hh2 : N' = T ++ [(r, lst vs)]) (hh3 : PL (lawGo f (stsOf true turk) (decide (part ≠ [])) (txt f (stsOf true turk) part) text 0) vs T)
inductive I8_2 (px : Addr) (f : Int → Option Row) (text : List Int) (part : List Int) (ss : List Str) (goal : List Int) (r : Addr) (N : Led) (m : Vars) : Prop
  | mk (vs : List Value) (T : Led) (u : Option Value) (hh1 : N = T ++ [(r, lst vs)]) (hh2 : PL (lawGo f ss (decide (part ≠ [])) goal text 0) vs T) (hh3 : m = ([("part", some (.ref px)), ("found", some (.ref r)), ("ends", u)] : Vars))
inductive I8_3 (x : Addr) (tx : Addr) (px : Addr) (turk : Bool) (f : Int → Option Row) (text : List Int) (part : List Int) (L : Addr) (ss : List Str) (goal : List Int) (gx : Addr) (r : Addr) (N : Led) (m : Vars) : Prop
  | mk (vs : List Value) (T : Led) (ps : List (Int × Int)) (n : Nat) (tn : Tok) (u : Option Value) (hh1 : N = [(L + 5, cellp (some (.int n tn))), (L + 4, cellp (some (.ref gx))), (L + 3, cellp (some (.bool turk))), (L + 2, cellp (some (.ref tx))), (L + 1, cellp (some (.ref x)))] ++ (T ++ [(r, lst vs)])) (hh2 : PL ps vs T) (hh3 : ps.length ≤ n) (hh4 : n ≤ text.length) (hh5 : ps ++ lawGo f ss (decide (part ≠ [])) goal text n = lawGo f ss (decide (part ≠ [])) goal text 0) (hh6 : m = ([("part", some (.ref px)), ("found", some (.ref r)), ("ends", u)] : Vars))
inductive I8_4 (text : List Int) (L : Addr) (N : Led) (k : Nat) : Prop
  | mk (n : Nat) (tn : Tok) (R : Led) (hh1 : k = text.length - n) (hh2 : N = (L + 5, cellp (some (.int n tn))) :: R)
inductive I8_5 (ES : List Int) : Prop
  | mk (e' : Int) (r' : List Int) (hh1 : ES = e' :: r')
theorem law_found_spec {w : World} {x tx px : Addr} {turk : Bool} {f : Int → Option Row} {H : Heap} {text part : List Int} (hH : ToldAt w H x f) (hsh : Short f) (hlen : text.length ≤ 300) (hplen : part.length ≤ 300) :
    Fn w 12 (.ref 454) [.ref x, .ref tx, .ref px, .bool turk] [] (fun G => Le H G ∧ Has G tx (lstI text) ∧ Has G px (lstI part))
      (fun _ v N' _ => (I8_1 turk f text part v N')) := by
  refine Fn.of_bodyC (names := []) (m₀ := [("part", some (.ref px)), ("found", none), ("ends", none)])
    (Nc := fun L => [(L + 5, cellp none), (L + 4, cellp none), (L + 3, cellp (some (.bool turk))), (L + 2, cellp (some (.ref tx))), (L + 1, cellp (some (.ref x)))]) rfl rfl rfl rfl (by decide)
    (fun L => lk_bindL (names := ["part", "found", "ends"]) rfl rfl) (fun L => rfl) ?_
  intro G L B ⟨hG, ht, hp⟩
  refine W.letE ?_
  intro en0 Qf0
  generalize hss : stsOf true turk = ss
  generalize hgoal : txt f ss part = goal
  obtain ⟨otx, hotx, tvs, hti, htl⟩ := id ht
  have rt : ∀ {P N : Led}, Rd G P N tx (lst tvs) := .inr (.inr ⟨_, hotx, htl⟩)
  have hl1 := hti.length
  refine W_cons (W_AssignTup (W_Tuple (W_argsCons (W_CallName (W_global (v := .ref 449) rfl (W_callWithF rfl (W_argsCons (W_cell (c := L + 1) rfl (.inl (.tail _ (.tail _ (.tail _ (.tail _ (.head _)))))) (W_argsCons (W_local rfl (W_argsCons (W_boolC (W_argsCons (W_cell (c := L + 3) rfl (.inl (.tail _ (.tail _ (.head _)))) (W_argsNil ?_)))))))))))))))
  refine W_call (N0 := []) ((law_text_spec hH hsh (by omega)).le (by decide)) (fun g S => ⟨fun b o e => S.keep _ _ (hG _ _ e), hp.keeps S.keep⟩) fun v N' g h' S1 k S2 _ ⟨gx, e, e2⟩ => ?_
  subst e e2
  rw [hss, hgoal] at S2
  refine ⟨_, _, _, S2.freeze, ?_⟩
  refine W_argsCons (W_List (W_argsNil (W_newList (by rw [sizeLine_eq]; simp) fun r => ?_)))
  refine W_argsCons (W_int fun t0 => (W_argsNil (W_newTuple (by rw [sizeLine_eq]; simp) fun q hq => ?_)))
  refine W_assignTup (.inr (.inl (.head _))) (W_ordCons (W_assignName (W_storeCell (c := L + 4) rfl (.tail (.tail .head)) ?_)))
  refine W_ordCons (W_assignName (W_store ?_))
  refine W_ordCons (W_assignName (W_storeCell (c := L + 5) rfl (.tail .head) (W_ordNil (ts := []) ?_)))
  refine W_cut (fun P N m => (I8_2 px f text part ss goal r N m)) ?_ ?_
  · refine W.st (P' := [(gx, lstI goal)]) (N' := [(L + 5, cellp (some (.int 0 t0))), (L + 4, cellp (some (.ref gx))), (L + 3, cellp (some (.bool turk))), (L + 2, cellp (some (.ref tx))), (L + 1, cellp (some (.ref x)))] ++ ([] ++ [(r, lst [])])) ?_
      fun h S => (S.perm (List.perm_middle (l₁ := [(L + 5, cellp (some (.int 0 t0))), (L + 4, cellp (some (.ref gx))), (L + 3, cellp (some (.bool turk))), (L + 2, cellp (some (.ref tx))), (L + 1, cellp (some (.ref x)))]) (l₂ := [])).symm).subP fun p hp => .tail _ hp
    refine W_While (fun P N m => (gx, lstI goal) ∈ P ∧ (I8_3 x tx px turk f text part L ss goal gx r N m))
      (fun P N m k => (I8_4 text L N k)) ?_ ?_ ?_
    · exact ⟨.head _, [], [], [], 0, t0, none, rfl, .nil, Nat.le_refl _, Nat.zero_le _, rfl, rfl⟩
    · rintro P N m ⟨_, vs, T, ps, n, tn, u, rfl, _⟩
      exact ⟨_, n, tn, _, rfl, rfl⟩
    · rintro P N m k ⟨hgx, vs, T, ps, n, tn, u, rfl, hpl, hpn, hn, he, rfl⟩ ⟨n', tn', R, rfl, e⟩
      have hnn : n = n' := by
        have e1 := (List.cons.inj e).1
        have e2 : cellp (some (.int n tn)) = cellp (some (.int n' tn')) := (Prod.mk.inj e1).2
        have e3 : cellp (some (.int n tn)) { cls := .none, dict := none, data := .cell (some (.int n tn)), slots := #[] } := rfl
        rw [e2] at e3
        have e4 : (Data.cell (some (Value.int n tn))) = Data.cell (some (.int n' tn')) := e3
        injection e4 with e5; injection e5 with e6; injection e6 with e7 _
        omega
      subst hnn
      clear e
      have hvl : vs.length = ps.length := All2.length hpl
      refine W_isTrueCompare (W_cell (c := L + 5) rfl (.inl (.head _)) (W_CallName (W_builtin rfl rfl (W_callWithB (W_argsCons (W_cell (c := L + 2) rfl (.inl (.tail _ (.tail _ (.tail _ (.head _))))) (W_argsNil (W_lenL rt (by omega) fun t1 => W_lt (W_truthyBool ⟨fun h1 => ?_, fun h1 => ?_⟩)))))))))
      · have h1 := of_decide_eq_true h1
        have hnt : n < text.length := by omega
        have hll : text.length - n = ((tvs.length : Int) + 1 - ((n : Int) + 1)).toNat := by omega
        refine W_cons (W_AssignComp ?_)
        refine W_CallName (W_builtin rfl rfl (W_callWithT (W_argsCons (W_BinOp (W_cell (c := L + 5) rfl (.inl (.head _)) (W_int fun t2 => W_add fun t3 => ?_))))))
        refine W_argsCons (W_BinOp (W_CallName (W_builtin rfl rfl (W_callWithB (W_argsCons (W_cell (c := L + 2) rfl (.inl (.tail _ (.tail _ (.tail _ (.head _))))) (W_argsNil (W_lenL rt (by omega) fun t4 => ?_))))))))
        refine W_int fun t5 => W_add fun t6 => W_argsNil (W_range2 fun rr hrr => ?_)
        refine ⟨_, _, fun i ys N => IntsAre ys (endsOf f ss goal text n i) ∧ N = [(L + 5, cellp (some (.int n tn))), (L + 4, cellp (some (.ref gx))), (L + 3, cellp (some (.bool turk))), (L + 2, cellp (some (.ref tx))), (L + 1, cellp (some (.ref x)))] ++ (T ++ [(r, lst vs)]), ?_, rfl,
          Src.range1 (.inl (.head _)) (by omega (config := {})) (by omega (config := {})) (by omega (config := {})) (by omega (config := {})), ⟨.nil, rfl⟩, ?_, ?_⟩
        · rw [sizeLine_eq]; omega
        · rintro G' le C i v ys N hi ⟨te, rfl⟩ ⟨hys, rfl⟩ hlen
          refine W_tests1 (W_isTrueCompare (W_CallName (W_global (v := .ref 449) rfl (W_callWithF rfl (W_argsCons (W_cell (c := L + 1) rfl (.inl (.tail _ (.tail _ (.tail _ (.tail _ (.head _)))))) ?_))))))
          refine W_argsCons (W_Subscript (W_cell (c := L + 2) rfl (.inl (.tail _ (.tail _ (.tail _ (.head _))))) (W_SliceE (W_partSome (W_cell (c := L + 5) rfl (.inl (.head _)) (W_partSome (W_local rfl fun r2 hr2 => ?_)))))))
          have rt' : ∀ {P N : Led}, Rd G' P N tx (lst tvs) := .inr (.inr ⟨_, le _ _ hotx, htl⟩)
          refine W_sliceRun rt' hti (.inr (.inl (.head _))) (by omega) (by omega) (by omega) fun t7 => ?_
          have es : (text.drop ((n : Int)).toNat).take (min ((n : Int) + 1 + i).toNat text.length - ((n : Int)).toNat) = (text.drop n).take (i + 1) := by
            have q1 : ((n : Int)).toNat = n := by omega
            have q2 : min ((n : Int) + 1 + i).toNat text.length - ((n : Int)).toNat = i + 1 := by omega
            rw [q2, q1]
          rw [es]
          refine W_argsCons (W_boolC (W_argsCons (W_cell (c := L + 3) rfl (.inl (.tail _ (.tail _ (.tail _ (.head _))))) (W_argsNil ?_))))
          have hsl : ((text.drop n).take (i + 1)).length ≤ 1000 := by rw [List.length_take, List.length_drop]; omega
          refine W_call (N0 := []) ((law_text_spec hH hsh hsl).le (by decide)) (fun g S => ⟨fun b o e => S.keep _ _ (le _ _ (hG _ _ e)), (S.nw _ (.head _)).1⟩) fun v N' g h' S1 k S2 _ ⟨q, e, e2⟩ => ?_
          subst e e2
          rw [hss] at S2
          refine ⟨_, _, _, S2, ?_⟩
          refine W_cell (c := L + 4) rfl (.inl (.tail _ (.tail _ (.tail _ (.head _))))) (W_eqLL (.inl (.head _)) (.inr (.inl (.tail _ (.tail _ hgx)))) ?_)
          refine W.st (fun h S => S.dropN.dropN) (x := W_truthyBool ⟨fun h2 => ?_, fun h2 => ?_⟩)
          · have h2 := of_decide_eq_true h2
            refine W_local rfl ⟨fun p hp => .tail _ hp, rfl, ?_, rfl⟩
            rw [endsOf_succ, if_pos h2]
            exact hys.append (.cons _ _ .nil)
          · have h2 := of_decide_eq_false h2
            refine ⟨fun p hp => .tail _ hp, rfl, ?_, rfl⟩
            rw [endsOf_succ, if_neg h2, List.append_nil]
            exact hys
        · rintro ys N e ⟨hys, rfl⟩ hlen
          rw [← hll] at hys
          have hgo := lawGo.eq_1 f ss (decide (part ≠ [])) goal text n
          rw [dif_pos hnt] at hgo
          have hyl := hys.length
          refine W.st (P' := P) (N' := (e, lst ys) :: ([(L + 5, cellp (some (.int n tn))), (L + 4, cellp (some (.ref gx))), (L + 3, cellp (some (.bool turk))), (L + 2, cellp (some (.ref tx))), (L + 1, cellp (some (.ref x)))] ++ (T ++ [(r, lst vs)]))) ?_ fun h S => S.subP fun p hp => .tail _ hp
          have skip : (∀ e' r', endsOf f ss goal text n (text.length - n) = e' :: r' → part = []) → lawGo f ss (decide (part ≠ [])) goal text n = lawGo f ss (decide (part ≠ [])) goal text (n + 1) := by
            intro hs
            rw [hgo]
            cases q : endsOf f ss goal text n (text.length - n) with
            | nil => rfl
            | cons e' r' => dsimp only; rw [dif_neg]; rintro ⟨_, h⟩; exact absurd (hs _ _ q) (by simpa using h)
          generalize hES : endsOf f ss goal text n (text.length - n) = ES at hys hgo skip
          refine W.st (P' := P) (N' := (e, lstI ES) :: ([(L + 5, cellp (some (.int n tn))), (L + 4, cellp (some (.ref gx))), (L + 3, cellp (some (.bool turk))), (L + 2, cellp (some (.ref tx))), (L + 1, cellp (some (.ref x)))] ++ (T ++ [(r, lst vs)]))) ?_ fun h S => S.nimp fun o y => ⟨ys, hys, y⟩
          refine W_cons (W_If (W_isTrueAnd (W_andCons (W_isTrueCompare (W_local rfl (W_List (W_argsNil (W_newList (by rw [sizeLine_eq]; simp) fun e2 => ?_))))))))
          refine W.st (P' := P) (N' := (e2, lstI []) :: (e, lstI ES) :: ([(L + 5, cellp (some (.int n tn))), (L + 4, cellp (some (.ref gx))), (L + 3, cellp (some (.bool turk))), (L + 2, cellp (some (.ref tx))), (L + 1, cellp (some (.ref x)))] ++ (T ++ [(r, lst vs)]))) ?_ fun h S => S.nimp fun o y => lstI_nil y
          refine W_neLL (.inl (.tail _ (.head _))) (.inl (.head _)) (W.st (fun h S => S.dropN) (x := W_truthyBool ⟨fun h2 => ?_, fun h2 => ?_⟩))
          · have h2 : ES ≠ [] := by simpa using h2
            refine W_andCons (W_isTrueCompare (W_local rfl (W_List (W_argsNil (W_newList (by rw [sizeLine_eq]; simp) fun e3 => ?_)))))
            refine W.st (P' := P) (N' := (e3, lstI []) :: (e, lstI ES) :: ([(L + 5, cellp (some (.int n tn))), (L + 4, cellp (some (.ref gx))), (L + 3, cellp (some (.bool turk))), (L + 2, cellp (some (.ref tx))), (L + 1, cellp (some (.ref x)))] ++ (T ++ [(r, lst vs)]))) ?_ fun h S => S.nimp fun o y => lstI_nil y
            refine W_neLL (.inr (.inr hp)) (.inl (.head _)) (W.st (fun h S => S.dropN) (x := W_truthyBool ⟨fun h3 => W_andNil ⟨fun _ => ?_, fun e => (nomatch e)⟩, fun h3 => ⟨fun e => (nomatch e), fun _ => ?_⟩⟩))
            · have h3 : part ≠ [] := by simpa using h3
              obtain ⟨e', r', rfl⟩ : (I8_5 ES) := by cases ES with | nil => exact absurd rfl h2 | cons a b => exact ⟨a, b, rfl⟩
              have hm := endsOf_mem (e := e') (by rw [hES]; exact List.mem_cons_self ..)
              have e0 : ((e'.toNat : Nat) : Int) = e' := by omega
              dsimp only at hgo
              rw [dif_pos ⟨by omega, by simpa using h3⟩] at hgo
              refine W_cons (W_Expr (W_CallMeth (W_local rfl (W_mL (vs := vs) PySem.F.slot_list_append (.inl (.tail _ (List.mem_append_right _ (List.mem_append_right _ (.head _))))) ?_))))
              refine W_callWithB (W_argsCons (W_Tuple (W_argsCons (W_cell (c := L + 5) rfl (.inl (.tail _ (.head _))) (W_argsCons (W_Subscript (W_local rfl (W_int fun t7 => W_itemI (.inl (.head _)) (by decide) rfl (by decide) fun t8 => ?_))))))))
              refine W_argsNil (W_newTupleN (by rw [sizeLine_eq]; simp) fun q => W_argsNil ?_)
              refine W.st (P' := P) (N' := (q, tupI [(n : Int), e']) :: (e, lstI (e' :: r')) :: ([(L + 5, cellp (some (.int n tn))), (L + 4, cellp (some (.ref gx))), (L + 3, cellp (some (.bool turk))), (L + 2, cellp (some (.ref tx))), (L + 1, cellp (some (.ref x)))] ++ (T ++ [(r, lst vs)]))) ?_ fun h S => S.nimp fun o y => ⟨_, .cons _ _ (.cons _ _ .nil), y⟩
              refine W_append (.tail (.tail (Upd.app (Upd.app .head T) _))) (by rw [sizeLine_eq]; omega) ?_
              refine W_cons (W_AssignName (W_Subscript (W_local rfl (W_int fun t9 => W_itemI (.inl (.tail _ (.head _))) (by decide) rfl (by decide) fun t10 => ?_))))
              refine W_storeCell (c := L + 5) rfl (.tail (.tail .head)) ?_
              refine W.st (P' := P) (N' := [(L + 5, cellp (some (.int (e'.toNat : Nat) t10))), (L + 4, cellp (some (.ref gx))), (L + 3, cellp (some (.bool turk))), (L + 2, cellp (some (.ref tx))), (L + 1, cellp (some (.ref x)))] ++ ((q, tupI [(n : Int), e']) :: (T ++ [(r, lst (vs ++ [.ref q]))]))) ?_
                fun h S => by
                  rw [e0]
                  exact (S.subN (.cons_cons _ (.cons _ (List.Sublist.refl _)))).perm (List.perm_middle (l₁ := [(L + 5, cellp (some (.int e' t10))), (L + 4, cellp (some (.ref gx))), (L + 3, cellp (some (.bool turk))), (L + 2, cellp (some (.ref tx))), (L + 1, cellp (some (.ref x)))])).symm
              refine W_nil (W_nil ⟨⟨hgx, vs ++ [.ref q], (q, tupI [(n : Int), e']) :: T, ps ++ [((n : Int), e')], e'.toNat, t10, _, rfl, PL.add hpl, by rw [List.length_append]; simp; omega, by omega, by rw [List.append_assoc, ← he, hgo]; rfl, rfl⟩, text.length - e'.toNat, by omega, e'.toNat, t10, _, rfl, rfl⟩)
            · have h3 : part = [] := by simpa using h3
              refine W_cons (W_AssignName (W_BinOp (W_cell (c := L + 5) rfl (.inl (.tail _ (.head _))) (W_int fun t7 => W_add fun t8 => ?_))))
              refine W_storeCell (c := L + 5) rfl (.tail .head) ?_
              refine W.st (P' := P) (N' := [(L + 5, cellp (some (.int ((n + 1 : Nat) : Int) t8))), (L + 4, cellp (some (.ref gx))), (L + 3, cellp (some (.bool turk))), (L + 2, cellp (some (.ref tx))), (L + 1, cellp (some (.ref x)))] ++ (T ++ [(r, lst vs)])) ?_ fun h S => S.dropN
              refine W_nil (W_nil ⟨⟨hgx, vs, T, ps, n + 1, t8, _, rfl, hpl, by omega, by omega, by rw [← skip fun _ _ _ => h3]; exact he, rfl⟩, text.length - (n + 1), by omega, n + 1, t8, _, rfl, rfl⟩)
          · have h2 : ES = [] := by simpa using h2
            refine ⟨fun e => (nomatch e), fun _ => ?_⟩
            refine W_cons (W_AssignName (W_BinOp (W_cell (c := L + 5) rfl (.inl (.tail _ (.head _))) (W_int fun t7 => W_add fun t8 => ?_))))
            refine W_storeCell (c := L + 5) rfl (.tail .head) ?_
            refine W.st (P' := P) (N' := [(L + 5, cellp (some (.int ((n + 1 : Nat) : Int) t8))), (L + 4, cellp (some (.ref gx))), (L + 3, cellp (some (.bool turk))), (L + 2, cellp (some (.ref tx))), (L + 1, cellp (some (.ref x)))] ++ (T ++ [(r, lst vs)])) ?_ fun h S => S.dropN
            refine W_nil (W_nil ⟨⟨hgx, vs, T, ps, n + 1, t8, _, rfl, hpl, by omega, by omega, by rw [← skip fun e' r' q => by rw [h2] at q; cases q]; exact he, rfl⟩, text.length - (n + 1), by omega, n + 1, t8, _, rfl, rfl⟩)
      · have h1 := of_decide_eq_false h1
        refine ⟨vs, _ ++ T, u, (List.append_assoc ..).symm, ?_, rfl⟩
        have hfg := lawGo.eq_1 f ss (decide (part ≠ [])) goal text n
        rw [dif_neg (fun q => by omega)] at hfg
        rw [hfg, List.append_nil] at he
        exact he ▸ All2.mono (fun _ _ ⟨t, e, h⟩ => ⟨t, e, List.mem_append_right _ h⟩) hpl
  · rintro P N m ⟨vs, T, u, rfl, hpl, rfl⟩
    exact W_cons (W_Return (W_local rfl fun h S => ⟨_, S.subP fun _ h => (nomatch h), Ends.nil, r, vs, T, rfl, rfl, by rw [hss, hgoal]; exact hpl⟩))
end Nt
end
section
open PySem PySem.W PyProof.Rows PySem.Calls
set_option maxRecDepth 100000
set_option autoImplicit false
set_option linter.unusedVariables false
namespace Nt
noncomputable abbrev Deck := List Int × Int
noncomputable def drawS (D : Deck) (many : Int) : Int × Deck := match D.1 with
  | c :: r => (c.fmod many, (r, D.2))
  | [] => (((((D.2 * 4801 + 53).fmod 1000003).fdiv 7).fmod many), ([], (D.2 * 4801 + 53).fmod 1000003))
noncomputable def deckE (w : World) (lf : Addr) (mx : Int) (t : Tok) : OP := dk (strKind prg w) [(("left" : Str), .ref lf), (("mixed" : Str), .int mx t)]
noncomputable def deckO (w : World) (lf : Addr) (mx : Int) : OP := fun o => ∃ t, deckE w lf mx t o
noncomputable def DeckLed (w : World) (dx lf : Addr) (D : Deck) : Led := [(dx, deckO w lf D.2), (lf, lstI D.1)]
theorem deck_left {lf : Addr} {v : Value} : valueAt [(("left" : Str), .ref lf), (("mixed" : Str), v)] "left" = some (.ref lf) := rfl
theorem deck_mixed {lf : Addr} {v : Value} : valueAt [(("left" : Str), .ref lf), (("mixed" : Str), v)] "mixed" = some v := rfl
theorem deck_stored {lf : Addr} {v u : Value} : stored [(("left" : Str), .ref lf), (("mixed" : Str), v)] "mixed" u = [(("left" : Str), .ref lf), (("mixed" : Str), u)] := rfl
structure DeckOk (D : Deck) : Prop where
  len : D.1.length ≤ 64
  mix : 0 ≤ D.2 ∧ D.2 < 1000003
theorem drawS_ok {D : Deck} {many : Int} (h : DeckOk D) : DeckOk (drawS D many).2 := by
  obtain ⟨l, mx⟩ := D
  unfold drawS
  cases l with
  | cons c r => exact ⟨by have := h.len; simp at this ⊢; omega, h.mix⟩
  | nil => exact ⟨by simp, by dsimp only; exact ⟨Int.fmod_nonneg_of_pos _ (by decide), Int.fmod_lt_of_pos _ (by decide)⟩⟩
inductive I9_1 (l : List Int) : Prop
  | mk (c : Int) (r : List Int) (hh1 : l = c :: r)
inductive I9_2 (c : Int) (r : List Int) (vs : List Value) : Prop
  | mk (v : Value) (vr : List Value) (hh1 : vs = v :: vr) (hh2 : ∃ tv, v = .int c tv ∧ IntsAre vr r)
theorem law_draw_spec {w : World} {dx lf : Addr} {D : Deck} {many : Int} {tm : Tok} (hD : DeckOk D) (hm : 0 < many) (hne : (dx == sysModules) = false) :
    Fn w 5 (.ref 428) [.ref dx, .int many tm] (DeckLed w dx lf D) (fun G => True) (fun _ v N' _ => (∃ t, v = .int (drawS D many).1 t) ∧ N' = DeckLed w dx lf (drawS D many).2) := by
  obtain ⟨l, mx⟩ := D
  refine Fn.of_body (names := ["deck", "many"]) (m₀ := [("deck", some (.ref dx)), ("many", some (.int many tm))]) rfl rfl (fun _ _ => .of_eq rfl) rfl rfl rfl ?_
  intro G L B _
  refine W.letE ?_
  intro en0 Qf0
  show W w G L 4 _ [] [(dx, deckO w lf mx), (lf, lstI l)] _ _
  refine W.opn (β := Tok) (F := fun _ => True) (p' := fun t => deckE w lf mx t) (.head _) (fun o ⟨t, h⟩ => ⟨t, trivial, h⟩) (fun t => .head) fun t _ => ?_
  refine W_cons (W_If (W_isTrueCompare (W_Subscript (W_local rfl (W_str fun t0 => W_itemD (isS w _ _) (.inl (.head _)) deck_left ?_)))))
  refine W_List (W_argsNil (W_newList (by rw [sizeLine_eq]; simp) fun e => ?_))
  refine W.clsI .head .nil ?_
  refine W_neLL (.inl (.tail _ (.tail _ (.head _)))) (.inl (.head _)) (W.st (fun h S => S.dropN) (x := W_truthyBool ⟨fun h1 => ?_, fun h1 => ?_⟩))
  · have h1 : l ≠ [] := by simpa using h1
    obtain ⟨c, r, rfl⟩ : (I9_1 l) := by cases l with | nil => exact absurd rfl h1 | cons a b => exact ⟨a, b, rfl⟩
    refine W.opnI (.tail _ (.head _)) (fun vs => .tail .head) fun vs hvs => ?_
    obtain ⟨v, vr, rfl, tv, rfl, hvr⟩ : (I9_2 c r vs) := by
      cases hvs with | cons n t h => exact ⟨_, _, rfl, _, rfl, h⟩
    have hlen := hD.len
    have hl := hvr.length
    simp only [List.length_cons] at hlen
    refine W_cons (W_Return (W_BinOp (W_CallMeth (W_Subscript (W_local rfl (W_str fun t1 => W_itemD (isS w _ _) (.inl (.head _)) deck_left ?_))))))
    refine W_mL PySem.F.slot_list_pop (.inl (.tail _ (.head _))) (W_callWithB (W_argsCons (W_int fun t2 => W_argsNil (W_pop0 (.tail .head) (by omega) ?_))))
    refine W_local rfl (W_mod (by omega) fun t3 => ?_)
    exact fun h S => ⟨DeckLed w dx lf (r, mx), ((S.cls (p' := deckO w lf mx) .head (fun o y => ⟨t, y⟩)).cls (p' := lstI r) (.tail .head) (fun o y => ⟨vr, hvr, y⟩)), Ends.same rfl, ⟨t3, rfl⟩, rfl⟩
  · obtain rfl : l = [] := by simpa using h1
    refine W_nil ?_
    have hmx := hD.mix
    dsimp only at hmx
    refine W_cons (W_AssignSub (W_BinOp (W_BinOp (W_BinOp (W_Subscript (W_local rfl (W_str fun t1 => W_itemD (isS w _ _) (.inl (.head _)) deck_mixed ?_)))))))
    refine W_int fun t2 => W_mul (q := fun t3 => ?_)
    refine W_int fun t4 => W_add fun t5 => W_int fun t6 => W_mod (by decide) fun t7 => ?_
    refine W_local rfl (W_str fun t8 => W_setItemD (isS w _ _) .head (by simp) ?_)
    rw [deck_stored]
    refine W_cons (W_Return (W_BinOp (W_BinOp (W_Subscript (W_local rfl (W_str fun t9 => W_itemD (isS w _ _) (.inl (.head _)) deck_mixed ?_))))))
    have h0 := Int.fmod_nonneg_of_pos (mx * 4801 + 53) (b := 1000003) (by decide)
    have h2 := Int.fmod_lt_of_pos (mx * 4801 + 53) (b := 1000003) (by decide)
    refine W_int fun t10 => W_fdiv (by decide) (PyProof.noPylong_small (by omega)) fun t11 => W_local rfl (W_mod (by omega) fun t12 => ?_)
    exact fun h S => ⟨DeckLed w dx lf ([], (mx * 4801 + 53).fmod 1000003), S.cls (p' := deckO w lf ((mx * 4801 + 53).fmod 1000003)) .head (fun o y => ⟨t7, y⟩), Ends.same rfl, ⟨t12, rfl⟩, rfl⟩
end Nt
end
section
open PySem PySem.W PyProof.Rows PySem.Calls
set_option maxRecDepth 100000
set_option autoImplicit false
set_option linter.unusedVariables false
namespace Nt
section
variable {w : World} {G : Heap} {L : Addr} {d : Nat} {P N : Led} {m : Vars} {env : Env} {Q : Value → Led → Led → Vars → Prop} {K : Type} [DecidableEq K]
/-- a dict display, read only from here on -/
theorem W_DictP {keys : List (Option Expr)} {values : List Expr} {pos : Pos} (knd : KeyKind prg w K) (x : ∀ r, (r == sysModules) = false → G.get? r = none → W w G L d (evalPairs (pairTrees keys values env pos)) P ((r, dk knd []) :: N) m fun vs P N m =>
      ∃ kvs N', Carries knd vs kvs ∧ kvs.length ≤ 1000 ∧ N = (r, dk knd []) :: N' ∧ Q (.ref r) ((r, dk knd (merged [] kvs)) :: P) N' m)
    (hall : keys.all (·.isSome) = true := by rfl) (hl : keys.length = values.length := by rfl) (h0 : keys ≠ [] := by exact fun e => nomatch e) (hlen : keys.length ≤ 15 := by decide) : W w G L d (eval (.Dict keys values pos) env) P N m Q := by
  refine W.post ?_
  have y : W w G L d (eval (.Dict keys values pos) env) P N m (fun v P' N' m' => ∃ r kvs N2, v = .ref r ∧ N' = (r, dk knd (merged [] kvs)) :: N2 ∧ Q (.ref r) ((r, dk knd (merged [] kvs)) :: P') N2 m') := by
    refine W_Dict knd (fun r hr => W.fact (fun h S => (S.nw _ (.head _)).2.2) fun hg => (x r hr hg).mono fun vs P' N' m' ⟨kvs, N2, a, b, c, q⟩ => ?_) hall hl h0 hlen
    subst c
    exact ⟨kvs, _, a, b, .head, r, kvs, N2, rfl, rfl, q⟩
  refine y.mono fun v P' N' m' ⟨r, kvs, N2, e1, e2, q⟩ => ?_
  subst e1 e2
  exact fun h S => ⟨_, _, _, S.freeze, q⟩
theorem W_draw {X Y : Led} {dx lf : Addr} {D : Deck} {many : Int} {tm : Tok} (hD : DeckOk D) (hm : 0 < many) (hne : (dx == sysModules) = false) (q : ∀ t, Q (.int (drawS D many).1 t) P (X ++ (DeckLed w dx lf (drawS D many).2 ++ Y)) m) (hd : 5 ≤ d := by decide) :
    W w G L d (call (.ref 428) [.ref dx, .int many tm]) P (X ++ (DeckLed w dx lf D ++ Y)) m Q :=
  W_callP (R := X ++ Y) ((law_draw_spec hD hm hne).le hd) (List.perm_append_comm_assoc ..) (fun _ _ => trivial) fun v N' g h' S1 k S2 _ ⟨⟨t, e⟩, e2⟩ => by
    subst e e2
    exact ⟨_, _, _, S2.perm (List.perm_append_comm_assoc ..), q t⟩
end
end Nt
end
section
open PySem PySem.W PyProof.Rows PySem.Calls
set_option maxRecDepth 100000
set_option autoImplicit false
set_option linter.unusedVariables false
namespace Nt
noncomputable def mixS (m c : Int) : Int := (m * 31 + c + 37).fmod 1000003
noncomputable def leftOf (ns : List Int) : List Int := (ns.take 20).map fun c => c.fmod 1000003
noncomputable def deckOf (ns : List Int) : Deck := (leftOf ns, (leftOf ns).foldl mixS 5656)
theorem deckOf_ok (ns : List Int) : DeckOk (deckOf ns) := by
  have h : ∀ (l : List Int) (m : Int), 0 ≤ m ∧ m < 1000003 → 0 ≤ l.foldl mixS m ∧ l.foldl mixS m < 1000003 := by
    intro l
    induction l with
    | nil => intro m h; exact h
    | cons c r ih => intro m h; exact ih _ ⟨Int.fmod_nonneg_of_pos _ (by decide), Int.fmod_lt_of_pos _ (by decide)⟩
  refine ⟨?_, h _ _ (by decide)⟩
  show (leftOf ns).length ≤ 64
  unfold leftOf
  rw [List.length_map, List.length_take]
  omega
theorem map_take_succ (g : Int → Int) {ns : List Int} {i : Nat} {c : Int} (h : ns[i]? = some c) : (ns.take (i + 1)).map g = (ns.take i).map g ++ [g c] := by
  rw [List.take_add_one, h]; simp
theorem foldl_take_succ (g : Int → Int → Int) (b : Int) {ns : List Int} {i : Nat} {c : Int} (h : ns[i]? = some c) : (ns.take (i + 1)).foldl g b = g ((ns.take i).foldl g b) c := by
  rw [List.take_add_one, h]; simp [List.foldl_append]
inductive I10_1 (w : World) (ns : List Int) (v : Value) (N' : Led) : Prop
  | mk (dx : Addr) (lf : Addr) (hh1 : v = .ref dx) (hh2 : (dx == sysModules) = false) (hh3 : N' = DeckLed w dx lf (deckOf ns))
inductive I10_2 (sc : Addr) (ns : List Int) (G : Heap) (P : Led) (N : Led) (m : Vars) : Prop
  | mk (lf : Addr) (t : Tok) (ls : List Value) (hh1 : G.get? lf = none) (hh2 : IntsAre ls (leftOf ns)) (hh3 : P = []) (hh4 : N = [(lf, lst ls)]) (hh5 : m = ([("script", some (.ref sc)), ("left", some (.ref lf)), ("mixed", some (.int 5656 t)), ("cell", none)] : Vars))
inductive I10_3 (sc : Addr) (ns : List Int) (lf : Addr) (m : Vars) : Prop
  | mk (t : Tok) (u : Option Value) (hh1 : m = ([("script", some (.ref sc)), ("left", some (.ref lf)), ("mixed", some (.int (deckOf ns).2 t)), ("cell", u)] : Vars))
inductive I10_4 (sc : Addr) (ns : List Int) (lf : Addr) (i : Nat) (m : Vars) : Prop
  | mk (t : Tok) (u : Option Value) (hh1 : m = ([("script", some (.ref sc)), ("left", some (.ref lf)), ("mixed", some (.int (((leftOf ns).take i).foldl mixS 5656) t)), ("cell", u)] : Vars))
theorem law_deck_spec {w : World} {sc : Addr} {ns : List Int} (hlen : ns.length ≤ 1000) :
    Fn w 6 (.ref 421) [.ref sc] [] (fun G => Has G sc (lstI ns)) (fun _ v N' _ => (I10_1 w ns v N')) := by
  refine Fn.of_body (names := ["script", "left", "mixed", "cell"]) (m₀ := [("script", some (.ref sc)), ("left", none), ("mixed", none), ("cell", none)]) rfl rfl (fun _ _ => .of_eq rfl) rfl rfl rfl ?_
  intro G L B hsc
  refine W.letE ?_
  intro en0 Qf0
  obtain ⟨osc, hosc, svs, hsi, hsl⟩ := hsc
  have hl1 := hsi.length
  refine W_cut (fun P N m => (I10_2 sc ns G P N m)) ?_ ?_
  · refine W_Swap2 (W_argsCons (W_ListCompG ?_))
    refine W.post (W_Subscript (W_local rfl (W_SliceE (W_partNone (W_partSome (W_int fun t0 r hr => ?_))))))
    refine W_sliceL (.inr (.inr ⟨_, hosc, hsl⟩)) (.inr (.inl (.head _))) .none (.int _ _) (by omega) fun q => ?_
    have hq : IntsAre (slicePick svs.toArray none (some 20) none).toList (ns.take 20) := kmk_upto hsi (by decide)
    generalize (slicePick svs.toArray none (some 20) none).toList = qs at hq
    have hql := hq.length
    have htk : (ns.take 20).length ≤ 20 := by rw [List.length_take]; omega
    refine fun h S => ⟨_, _, _, S.freeze, qs.length, _, fun i ys N => IntsAre ys (((ns.take 20).take i).map fun c => c.fmod 1000003) ∧ N = [], by rw [sizeLine_eq]; omega, rfl, .list (.inl (.head _)), ⟨.nil, rfl⟩, ?_, ?_⟩
    · rintro G' le C i v ys N hi hv ⟨hys, rfl⟩ hlen
      obtain ⟨c, tc, hci, rfl⟩ := IntsAre.getV hq hv
      refine W_tests0 ⟨fun _ => ?_, fun e => (nomatch e)⟩
      refine W_BinOp (W_CallName (W_builtin rfl rfl (W_callWithT (W_argsCons (W_local rfl (W_argsNil (W_intI ?_)))))))
      refine W_int fun t1 => W_mod (by decide) fun t2 => ⟨fun _ h => h, rfl, ?_, rfl⟩
      rw [map_take_succ _ hci]
      exact hys.append (.cons _ _ .nil)
    · rintro ys N lf ⟨hys, rfl⟩ hlen
      have e : (ns.take 20).take qs.length = ns.take 20 := by rw [hql, List.take_length]
      rw [e] at hys
      refine W.fact (fun h S => (S.nw _ (.head _)).2.2) fun hlf => ?_
      refine W.st (P' := []) ?_ fun h S => S.subP fun _ h => nomatch h
      refine W_argsCons (W_int fun t1 => W_argsNil ⟨_, _, rfl, W_store (W_store ⟨lf, t1, ys, hlf, hys, rfl, rfl, rfl⟩)⟩)
  · rintro P N m ⟨lf, t, ls, hlf, hls, rfl, rfl, rfl⟩
    have hll := hls.length
    have hbound : ∀ i, 0 ≤ ((leftOf ns).take i).foldl mixS 5656 := by
      intro i
      have h : ∀ (l : List Int) (m : Int), 0 ≤ m → 0 ≤ l.foldl mixS m := by
        intro l
        induction l with
        | nil => intro m h; exact h
        | cons c r ih => intro m h; exact ih _ (Int.fmod_nonneg_of_pos _ (by decide))
      exact h _ _ (by decide)
    refine W.st (P' := [(lf, lst ls)]) (N' := []) ?_ fun h S => S.freeze
    refine W_cut (fun P N m => P = [(lf, lst ls)] ∧ N = [] ∧ (I10_3 sc ns lf m)) ?_ ?_
    · refine W_For [(lf, lst ls)] ls.length (fun (i : Nat) (v : Value) => ls[i]? = some v) (fun i N m => N = [] ∧ (I10_4 sc ns lf i m)) ?_ ?_ ?_
      · exact W_local rfl ⟨rfl, .list (.inl (.head _)), rfl, t, none, rfl⟩
      · rintro G' le i v N m hi hv ⟨rfl, t, u, rfl⟩
        obtain ⟨c, tc, hci, rfl⟩ := IntsAre.getV hls hv
        refine W_assignName (W_store ?_)
        refine W_cons (W_AssignName (W_BinOp (W_BinOp (W_BinOp (W_BinOp (W_local rfl (W_int fun t1 => W_mul (q := fun t2 => ?_))))))))
        · refine W_local rfl (W_add fun t3 => W_int fun t4 => W_add fun t5 => W_int fun t6 => W_mod (by decide) fun t7 => W_store (W_nil ⟨fun _ h => h, rfl, t7, some (.int c tc), ?_⟩))
          rw [foldl_take_succ _ _ hci]; rfl
      · rintro N m ⟨rfl, t, u, rfl⟩
        refine ⟨rfl, rfl, t, u, ?_⟩
        rw [hll, List.take_length]; rfl
    · rintro P N m ⟨rfl, rfl, t, u, rfl⟩
      refine W.st (P' := []) (N' := [(lf, lst ls)]) ?_ fun h S => S.thaw hlf (by simp)
      refine W_cons (W_Return (W_Dict (strKind prg w) fun r hr => W_pairsCons (W_str fun t1 => W_local rfl (W_pairsCons (W_str fun t2 => W_local rfl (W_pairsNil ⟨[(("left" : Str), .ref lf), (("mixed" : Str), .int (deckOf ns).2 t)], _, ⟨isS w _ _, rfl, isS w _ _, rfl, trivial⟩, by simp, .head, ?_⟩))))))
      have e : merged [] [(("left" : Str), Value.ref lf), (("mixed" : Str), .int (deckOf ns).2 t)] = [(("left" : Str), Value.ref lf), (("mixed" : Str), .int (deckOf ns).2 t)] := rfl
      rw [e]
      exact fun h S => ⟨DeckLed w r lf (deckOf ns), (S.cls (p' := deckO w lf (deckOf ns).2) .head (fun o y => ⟨t, y⟩)).cls (p' := lstI (leftOf ns)) (.tail .head) (fun o y => ⟨ls, hls, y⟩), Ends.nil, r, lf, rfl, hr, rfl⟩
end Nt
end
section
open PySem PySem.W PyProof.Rows PySem.Calls
set_option maxRecDepth 100000
set_option autoImplicit false
set_option linter.unusedVariables false
namespace Nt
theorem drawS_range {D : Deck} {many : Int} (hm : 0 < many) : 0 ≤ (drawS D many).1 ∧ (drawS D many).1 < many := by
  unfold drawS
  split
  · exact ⟨Int.fmod_nonneg_of_pos _ hm, Int.fmod_lt_of_pos _ hm⟩
  · exact ⟨Int.fmod_nonneg_of_pos _ hm, Int.fmod_lt_of_pos _ hm⟩
noncomputable def ToldKv (w : World) (h : Heap) (kvs : List (Int × Value)) (T : List (Int × Row)) : Prop := All2 (fun kv tr => kv.1 = tr.1 ∧ RowAt w h kv.2 tr.2) kvs T
noncomputable def ToldIs (w : World) (h : Heap) (a : Addr) (T : List (Int × Row)) : Prop := ∃ kvs, (a == sysModules) = false ∧ Has h a (dk (intKind prg w) kvs) ∧ ToldKv w h kvs T
noncomputable def fT (T : List (Int × Row)) (c : Int) : Option Row := T.lookup c
theorem ToldKv.value {w : World} {h : Heap} {kvs : List (Int × Value)} {T : List (Int × Row)} (x : ToldKv w h kvs T) (c : Int) : match fT T c with
    | none => valueAt kvs c = none
    | some r => ∃ v, valueAt kvs c = some v ∧ RowAt w h v r := by
  unfold ToldKv at x
  unfold fT
  induction x with
  | nil => rfl
  | @cons kv tr kvs T hh _ ih =>
    obtain ⟨e, hr⟩ := hh
    rw [List.lookup_cons]
    unfold valueAt at ih ⊢
    rw [List.find?_cons]
    by_cases q : kv.1 = c
    · have q' : (c == tr.1) = true := by rw [← e, q]; exact beq_self_eq_true _
      rw [q', decide_eq_true q]
      exact ⟨_, rfl, hr⟩
    · have q' : (c == tr.1) = false := by
        cases z : c == tr.1 with
        | false => rfl
        | true => exact absurd (e.trans (eq_of_beq z).symm) q
      rw [q', decide_eq_false q]
      exact ih
theorem ToldIs.told {w : World} {h : Heap} {a : Addr} {T : List (Int × Row)} (x : ToldIs w h a T) : ToldAt w h a (fT T) :=
  let ⟨kvs, n, hk, hv⟩ := x; ⟨kvs, n, hk, hv.value⟩
noncomputable def toldL (c1 c2 c3 : Int) (o : Option Bool) : List (Int × Row) :=
  ([(65, [("C", [97])]), (66, [("C", [98])]), (8490, [("C", [97 + c1])]), (223, [("F", [97 + c2, 97 + c3])]), (7838, [("F", [97 + c2, 97 + c3]), ("S", [223])])] : List (Int × Row)) ++
  ((match o with | none => [] | some b => [(64261, [("F", if b then [97 + c2, 97 + c3] else [99, 775])])] : List (Int × Row)) ++ ([(73, [("C", [105]), ("T", [305])]), (304, [("F", [105, 775]), ("T", [105])])] : List (Int × Row)))
noncomputable def toldS (D : Deck) : List (Int × Row) × Deck :=
  let e1 := drawS D 3
  let e2 := drawS e1.2 3
  let e3 := drawS e2.2 3
  let e4 := drawS e3.2 2
  if e4.1 = 0 then
    let e5 := drawS e4.2 2
    (toldL e1.1 e2.1 e3.1 (some (decide (e5.1 = 0))), e5.2)
  else (toldL e1.1 e2.1 e3.1 none, e4.2)
inductive I11_1 (w : World) (T : List (Int × Row)) (G : Heap) (v : Value) (N' : Led) (h' : Heap) : Prop
  | mk (R : Led) (a : Addr) (hh1 : v = .ref a) (hh2 : (∀ p ∈ R, Has h' p.1 p.2 ∧ G.get? p.1 = none ∧ p.1 ∉ N'.map (·.1))) (hh3 : ∀ g, (∀ p ∈ R, Has g p.1 p.2) → ToldIs w g a T)
noncomputable def ToldPost (w : World) (T : List (Int × Row)) (G : Heap) (v : Value) (N' : Led) (h' : Heap) : Prop :=
  (I11_1 w T G v N' h')
theorem rowC {w : World} {g : Heap} {r t : Addr} {ks : List Int} {s : Str} (h1 : Has g r (dk (strKind prg w) [(s, .ref t)])) (hn : (r == sysModules) = false) (h2 : Has g t (tupI ks)) : RowAt w g (.ref r) [(s, ks)] :=
  ⟨r, _, rfl, hn, h1, .cons ⟨rfl, t, rfl, h2⟩ .nil⟩
theorem rowC2 {w : World} {g : Heap} {r t t2 : Addr} {ks ks2 : List Int} {s s2 : Str} (h1 : Has g r (dk (strKind prg w) [(s, .ref t), (s2, .ref t2)])) (hn : (r == sysModules) = false) (h2 : Has g t (tupI ks)) (h3 : Has g t2 (tupI ks2)) : RowAt w g (.ref r) [(s, ks), (s2, ks2)] :=
  ⟨r, _, rfl, hn, h1, .cons ⟨rfl, t, rfl, h2⟩ (.cons ⟨rfl, t2, rfl, h3⟩ .nil)⟩
theorem tI1 {g : Heap} {t : Addr} {a : Int} {u : Tok} (h : Has g t (tup [.int a u])) : Has g t (tupI [a]) := let ⟨o, ho, x⟩ := h; ⟨o, ho, _, .cons _ _ .nil, x⟩
theorem tI2 {g : Heap} {t : Addr} {a b : Int} {u v : Tok} (h : Has g t (tup [.int a u, .int b v])) : Has g t (tupI [a, b]) := let ⟨o, ho, x⟩ := h; ⟨o, ho, _, .cons _ _ (.cons _ _ .nil), x⟩
inductive I11_2 (w : World) (dx : Addr) (lf : Addr) (D : Deck) (G : Heap) (td : Addr) (r65 : Addr) (r66 : Addr) (r84 : Addr) (c1 : Int) (c2 : Int) (c3 : Int) (pr : Addr) (r22 : Addr) (r78 : Addr) (P : Led) (N : Led) (m : Vars) : Prop
  | mk (Dn : Deck) (ex : List (Int × Value)) (exT : List (Int × Row)) (hh1 : (ex = [] ∨ ∃ v, ex = [((64261 : Int), v)])) (hh2 : toldS D = (([(65, [("C", [97])]), (66, [("C", [98])]), (8490, [("C", [97 + c1])]), (223, [("F", [97 + c2, 97 + c3])]), (7838, [("F", [97 + c2, 97 + c3]), ("S", [223])])] : List (Int × Row)) ++ (exT ++ ([(73, [("C", [105]), ("T", [305])]), (304, [("F", [105, 775]), ("T", [105])])] : List (Int × Row))), Dn)) (hh3 : (∀ p ∈ P, G.get? p.1 = none)) (hh4 : (∀ g, (∀ p ∈ P, Has g p.1 p.2) → ToldKv w g ([(65, .ref r65), (66, .ref r66), (8490, .ref r84), (223, .ref r22), (7838, .ref r78)] ++ ex) (([(65, [("C", [97])]), (66, [("C", [98])]), (8490, [("C", [97 + c1])]), (223, [("F", [97 + c2, 97 + c3])]), (7838, [("F", [97 + c2, 97 + c3]), ("S", [223])])] : List (Int × Row)) ++ exT))) (hh5 : N = (td, dk (intKind prg w) ([(65, .ref r65), (66, .ref r66), (8490, .ref r84), (223, .ref r22), (7838, .ref r78)] ++ ex)) :: DeckLed w dx lf Dn) (hh6 : m = ([("deck", some (.ref dx)), ("told", some (.ref td)), ("pair", some (.ref pr))] : Vars))
theorem law_told_spec {w : World} {dx lf : Addr} {D : Deck} (hD : DeckOk D) (hne : (dx == sysModules) = false) :
    Fn w 7 (.ref 435) [.ref dx] (DeckLed w dx lf D) (fun G => True) (fun G v N' h' => N' = DeckLed w dx lf (toldS D).2 ∧ ToldPost w (toldS D).1 G v N' h') := by
  refine Fn.of_body (names := ["deck", "told", "pair"]) (m₀ := [("deck", some (.ref dx)), ("told", none), ("pair", none)]) rfl rfl (fun _ _ => .of_eq rfl) rfl rfl rfl ?_
  intro G L B _
  refine W.letE ?_
  intro en0 Qf0
  refine W_cons (W_AssignName (W_Dict (intKind prg w) fun td htd => ?_))
  -- 65
  refine W_pairsCons (W_int fun t1 => W_DictP (strKind prg w) fun r65 n65 g65 => W_pairsCons (W_str fun t2 => W_Tuple (W_argsCons (W_int fun u65 => W_argsNil (W_newTuple (by rw [sizeLine_eq]; simp) fun t65 gt65 => ?_)))))
  refine W_pairsNil ⟨[(("C" : Str), .ref t65)], _, ⟨isS w _ _, rfl, trivial⟩, by simp, rfl, ?_⟩
  -- 66
  refine W_pairsCons (W_int fun t1 => W_DictP (strKind prg w) fun r66 n66 g66 => W_pairsCons (W_str fun t2 => W_Tuple (W_argsCons (W_int fun u66 => W_argsNil (W_newTuple (by rw [sizeLine_eq]; simp) fun t66 gt66 => ?_)))))
  refine W_pairsNil ⟨[(("C" : Str), .ref t66)], _, ⟨isS w _ _, rfl, trivial⟩, by simp, rfl, ?_⟩
  -- 8490
  refine W_pairsCons (W_int fun t1 => W_DictP (strKind prg w) fun r84 n84 g84 => W_pairsCons (W_str fun t2 => W_Tuple (W_argsCons (W_BinOp (W_int fun t3 => ?_)))))
  refine W_CallName (W_global (v := .ref 428) rfl (W_callWithF rfl (W_argsCons (W_local rfl (W_argsCons (W_int fun t4 => W_argsNil ?_))))))
  refine W_draw (X := [_, _]) (Y := []) hD (by decide) hne fun t5 => W_add fun t6 => ?_
  generalize hc1 : (drawS D 3).1 = c1
  have hD1 := drawS_ok (many := 3) hD
  generalize hE1 : (drawS D 3).2 = D1 at hD1
  refine W_argsNil (W_newTuple (by rw [sizeLine_eq]; simp) fun t84 gt84 => W_pairsNil ⟨[(("C" : Str), .ref t84)], _, ⟨isS w _ _, rfl, trivial⟩, by simp, rfl, ?_⟩)
  refine W_pairsNil ⟨[(65, .ref r65), (66, .ref r66), (8490, .ref r84)], _, ⟨isI w _ _, rfl, isI w _ _, rfl, isI w _ _, rfl, trivial⟩, by simp, .head, ?_⟩
  refine W_store ?_
  -- the pair
  refine W_cons (W_AssignName (W_Tuple (W_argsCons (W_BinOp (W_int fun t7 => ?_)))))
  refine W_CallName (W_global (v := .ref 428) rfl (W_callWithF rfl (W_argsCons (W_local rfl (W_argsCons (W_int fun t8 => W_argsNil ?_))))))
  refine W_draw (X := [_]) (Y := []) hD1 (by decide) hne fun t9 => W_add fun t10 => ?_
  generalize hc2 : (drawS D1 3).1 = c2
  have hD2 := drawS_ok (many := 3) hD1
  generalize hE2 : (drawS D1 3).2 = D2 at hD2
  refine W_argsCons (W_BinOp (W_int fun t11 => ?_))
  refine W_CallName (W_global (v := .ref 428) rfl (W_callWithF rfl (W_argsCons (W_local rfl (W_argsCons (W_int fun t12 => W_argsNil ?_))))))
  refine W_draw (X := [_]) (Y := []) hD2 (by decide) hne fun t13 => W_add fun t14 => ?_
  generalize hc3 : (drawS D2 3).1 = c3
  have hD3 := drawS_ok (many := 3) hD2
  generalize hE3 : (drawS D2 3).2 = D3 at hD3
  refine W_argsNil (W_newTuple (by rw [sizeLine_eq]; simp) fun pr gpr => W_store ?_)
  -- 223, 7838
  refine W_cons (W_AssignTup (W_Tuple (W_argsCons (W_DictP (strKind prg w) fun r22 n22 g22 => ?_))))
  refine W_pairsCons (W_str fun t15 => W_local rfl (W_pairsNil ⟨[(("F" : Str), .ref pr)], _, ⟨isS w _ _, rfl, trivial⟩, by simp, rfl, ?_⟩))
  refine W_argsCons (W_DictP (strKind prg w) fun r78 n78 g78 => ?_)
  refine W_pairsCons (W_str fun t16 => W_local rfl (W_pairsCons (W_str fun t17 => W_Tuple (W_argsCons (W_int fun t18 => W_argsNil (W_newTuple (by rw [sizeLine_eq]; simp) fun t78 gt78 => ?_))))))
  refine W_pairsNil ⟨[(("F" : Str), .ref pr), (("S" : Str), .ref t78)], _, ⟨isS w _ _, rfl, isS w _ _, rfl, trivial⟩, by simp, rfl, ?_⟩
  refine W_argsNil (W_newTuple (by rw [sizeLine_eq]; simp) fun tt gtt => ?_)
  refine W_assignTup (.inr (.inl (.head _))) (W_ordCons (W_assignSub (W_local rfl (W_int fun t19 => W_setItemD (isI w _ _) .head (Nat.le_of_ble_eq_true rfl) ?_))))
  refine W_ordCons (W_assignSub (W_local rfl (W_int fun t20 => W_setItemD (isI w _ _) .head (Nat.le_of_ble_eq_true rfl) (W_ordNil (ts := []) ?_))))
  have hk5 : stored (stored (merged [] [((65 : Int), Value.ref r65), (66, .ref r66), (8490, .ref r84)]) 223 (.ref r22)) 7838 (.ref r78) = [((65 : Int), Value.ref r65), (66, .ref r66), (8490, .ref r84), (223, .ref r22), (7838, .ref r78)] := rfl
  rw [hk5]
  have hfr : ∀ p ∈ ([(tt, tup [Value.ref r22, Value.ref r78]), (r78, dk (strKind prg w) (merged [] [(("F" : Str), .ref pr), (("S" : Str), .ref t78)])), (t78, tup [.int 223 t18]), (r22, dk (strKind prg w) (merged [] [(("F" : Str), .ref pr)])), (pr, tup [.int (97 + c2) t10, .int (97 + c3) t14]),
      (r84, dk (strKind prg w) (merged [] [(("C" : Str), .ref t84)])), (t84, tup [.int (97 + c1) t6]), (r66, dk (strKind prg w) (merged [] [(("C" : Str), .ref t66)])), (t66, tup [.int 98 u66]), (r65, dk (strKind prg w) (merged [] [(("C" : Str), .ref t65)])), (t65, tup [.int 97 u65])] : Led), G.get? p.1 = none := by
    intro p hp
    simp only [List.mem_cons, List.not_mem_nil, or_false] at hp
    rcases hp with rfl | rfl | rfl | rfl | rfl | rfl | rfl | rfl | rfl | rfl | rfl <;> assumption
  have hbase : ∀ g, (∀ p ∈ ([(tt, tup [Value.ref r22, Value.ref r78]), (r78, dk (strKind prg w) (merged [] [(("F" : Str), .ref pr), (("S" : Str), .ref t78)])), (t78, tup [.int 223 t18]), (r22, dk (strKind prg w) (merged [] [(("F" : Str), .ref pr)])), (pr, tup [.int (97 + c2) t10, .int (97 + c3) t14]),
      (r84, dk (strKind prg w) (merged [] [(("C" : Str), .ref t84)])), (t84, tup [.int (97 + c1) t6]), (r66, dk (strKind prg w) (merged [] [(("C" : Str), .ref t66)])), (t66, tup [.int 98 u66]), (r65, dk (strKind prg w) (merged [] [(("C" : Str), .ref t65)])), (t65, tup [.int 97 u65])] : Led), Has g p.1 p.2) → ToldKv w g [(65, .ref r65), (66, .ref r66), (8490, .ref r84), (223, .ref r22), (7838, .ref r78)] ([(65, [("C", [97])]), (66, [("C", [98])]), (8490, [("C", [97 + c1])]), (223, [("F", [97 + c2, 97 + c3])]), (7838, [("F", [97 + c2, 97 + c3]), ("S", [223])])] : List (Int × Row)) := by
    intro g hg
    have hpr := tI2 (hg (pr, tup [.int (97 + c2) t10, .int (97 + c3) t14]) (by repeat first | exact List.Mem.head _ | apply List.Mem.tail))
    refine .cons ⟨rfl, rowC (hg (r65, _) (by repeat first | exact List.Mem.head _ | apply List.Mem.tail)) n65 (tI1 (hg (t65, _) (by repeat first | exact List.Mem.head _ | apply List.Mem.tail)))⟩ ?_
    refine .cons ⟨rfl, rowC (hg (r66, _) (by repeat first | exact List.Mem.head _ | apply List.Mem.tail)) n66 (tI1 (hg (t66, _) (by repeat first | exact List.Mem.head _ | apply List.Mem.tail)))⟩ ?_
    refine .cons ⟨rfl, rowC (hg (r84, _) (by repeat first | exact List.Mem.head _ | apply List.Mem.tail)) n84 (tI1 (hg (t84, _) (by repeat first | exact List.Mem.head _ | apply List.Mem.tail)))⟩ ?_
    refine .cons ⟨rfl, rowC (hg (r22, _) (by repeat first | exact List.Mem.head _ | apply List.Mem.tail)) n22 hpr⟩ ?_
    exact .cons ⟨rfl, rowC2 (hg (r78, _) (by repeat first | exact List.Mem.head _ | apply List.Mem.tail)) n78 hpr (tI1 (hg (t78, _) (by repeat first | exact List.Mem.head _ | apply List.Mem.tail)))⟩ .nil
  refine W_cut (fun P N m => (I11_2 w dx lf D G td r65 r66 r84 c1 c2 c3 pr r22 r78 P N m)) ?_ ?_
  · refine W_If (W_isTrueCompare ?_)
    refine W_CallName (W_global (v := .ref 428) rfl (W_callWithF rfl (W_argsCons (W_local rfl (W_argsCons (W_int fun t32 => W_argsNil ?_))))))
    refine W_draw (X := [_]) (Y := []) hD3 (by decide) hne fun t33 => W_int fun t34 => W_eqI (W_truthyBool ?_)
    generalize hc4 : (drawS D3 2).1 = c4
    have hD4 := drawS_ok (many := 2) hD3
    generalize hE4 : (drawS D3 2).2 = D4 at hD4
    have hTS : toldS D = if c4 = 0 then (toldL c1 c2 c3 (some (decide ((drawS D4 2).1 = 0))), (drawS D4 2).2) else (toldL c1 c2 c3 none, D4) := by
      unfold toldS
      simp only [hE1, hc1, hE2, hc2, hE3, hc3, hc4, hE4]
    refine ⟨fun h0 => ?_, fun h0 => W_nil ⟨D4, [], [], .inl rfl, ?_, hfr, hbase, rfl, rfl⟩⟩
    · have h0 : c4 = 0 := eq_of_beq h0
      rw [if_pos h0] at hTS
      generalize hc5 : (drawS D4 2).1 = c5 at hTS
      have hD5 := drawS_ok (many := 2) hD4
      generalize hE5 : (drawS D4 2).2 = D5 at hD5 hTS
      refine W_cons (W_AssignSub (W_DictP (strKind prg w) fun r64 n64 g64 => W_pairsCons (W_str fun t35 => W_IfExp (W_isTrueCompare ?_))))
      refine W_CallName (W_global (v := .ref 428) rfl (W_callWithF rfl (W_argsCons (W_local rfl (W_argsCons (W_int fun t36 => W_argsNil ?_))))))
      refine W_draw (X := [_, _]) (Y := []) hD4 (by decide) hne fun t37 => W_int fun t38 => W_eqI (W_truthyBool ?_)
      rw [hc5, hE5]
      refine ⟨fun h5 => ?_, fun h5 => ?_⟩
      · have h5 : c5 = 0 := eq_of_beq h5
        refine W_local rfl (W_pairsNil ⟨[(("F" : Str), .ref pr)], _, ⟨isS w _ _, rfl, trivial⟩, by simp, rfl, ?_⟩)
        refine W_local rfl (W_int fun t39 => W_setItemD (isI w _ _) .head (by simp) (W_nil ⟨D5, [(64261, .ref r64)], [(64261, [("F", [97 + c2, 97 + c3])])], .inr ⟨_, rfl⟩, ?_, ?_, ?_, rfl, rfl⟩))
        · rw [hTS, h5]; rfl
        · intro p hp
          rcases List.mem_cons.mp hp with rfl | hp
          · exact g64
          · exact hfr p hp
        · intro g hg
          refine All2.app (hbase g fun p hp => hg p (.tail _ hp)) (.cons ⟨rfl, rowC (hg (r64, _) (.head _)) n64 (tI2 (hg (pr, _) (by repeat first | exact List.Mem.head _ | apply List.Mem.tail)))⟩ .nil)
      · have h5 : ¬ c5 = 0 := by simpa using h5
        refine W_Tuple (W_argsCons (W_int fun t40 => W_argsCons (W_int fun t41 => W_argsNil (W_newTuple (by rw [sizeLine_eq]; simp) fun t99 g99 => ?_))))
        refine W_pairsNil ⟨[(("F" : Str), .ref t99)], _, ⟨isS w _ _, rfl, trivial⟩, by simp, rfl, ?_⟩
        refine W_local rfl (W_int fun t39 => W_setItemD (isI w _ _) .head (by simp) (W_nil ⟨D5, [(64261, .ref r64)], [(64261, [("F", [99, 775])])], .inr ⟨_, rfl⟩, ?_, ?_, ?_, rfl, rfl⟩))
        · rw [hTS, decide_eq_false h5]; rfl
        · intro p hp
          rcases List.mem_cons.mp hp with rfl | hp
          · exact g64
          · rcases List.mem_cons.mp hp with rfl | hp
            · exact g99
            · exact hfr p hp
        · intro g hg
          refine All2.app (hbase g fun p hp => hg p (.tail _ (.tail _ hp))) (.cons ⟨rfl, rowC (hg (r64, _) (.head _)) n64 (tI2 (hg (t99, _) (.tail _ (.head _))))⟩ .nil)
    · have h0 : ¬ c4 = 0 := by simpa using h0
      rw [hTS, if_neg h0]; rfl
  · rintro P N m ⟨Dn, ex, exT, hex, hT, hP, hK, rfl, rfl⟩
    refine W_cons (W_AssignTup (W_Tuple (W_argsCons (W_DictP (strKind prg w) fun r73 n73 g73 => ?_))))
    refine W_pairsCons (W_str fun t21 => W_Tuple (W_argsCons (W_int fun t22 => W_argsNil (W_newTuple (by rw [sizeLine_eq]; simp) fun ta gta => ?_))))
    refine W_pairsCons (W_str fun t23 => W_Tuple (W_argsCons (W_int fun t24 => W_argsNil (W_newTuple (by rw [sizeLine_eq]; simp) fun tb gtb => ?_))))
    refine W_pairsNil ⟨[(("C" : Str), .ref ta), (("T" : Str), .ref tb)], _, ⟨isS w _ _, rfl, isS w _ _, rfl, trivial⟩, by simp, rfl, ?_⟩
    refine W_argsCons (W_DictP (strKind prg w) fun r30 n30 g30 => ?_)
    refine W_pairsCons (W_str fun t25 => W_Tuple (W_argsCons (W_int fun t26 => W_argsCons (W_int fun t27 => W_argsNil (W_newTuple (by rw [sizeLine_eq]; simp) fun tc gtc => ?_)))))
    refine W_pairsCons (W_str fun t28 => W_Tuple (W_argsCons (W_int fun t29 => W_argsNil (W_newTuple (by rw [sizeLine_eq]; simp) fun te gte => ?_))))
    refine W_pairsNil ⟨[(("F" : Str), .ref tc), (("T" : Str), .ref te)], _, ⟨isS w _ _, rfl, isS w _ _, rfl, trivial⟩, by simp, rfl, ?_⟩
    refine W_argsNil (W_newTuple (by rw [sizeLine_eq]; simp) fun ty gty => ?_)
    have hst : ∀ v, stored ([(65, .ref r65), (66, .ref r66), (8490, .ref r84), (223, .ref r22), (7838, .ref r78)] ++ ex) 73 v = [((65 : Int), Value.ref r65), (66, .ref r66), (8490, .ref r84), (223, .ref r22), (7838, .ref r78)] ++ ex ++ [(73, v)] := by
      intro v; rcases hex with rfl | ⟨u, rfl⟩ <;> rfl
    have hst2 : ∀ v u, stored ([((65 : Int), Value.ref r65), (66, .ref r66), (8490, .ref r84), (223, .ref r22), (7838, .ref r78)] ++ ex ++ [(73, v)]) 304 u = [((65 : Int), Value.ref r65), (66, .ref r66), (8490, .ref r84), (223, .ref r22), (7838, .ref r78)] ++ ex ++ [(73, v)] ++ [(304, u)] := by
      intro v u; rcases hex with rfl | ⟨z, rfl⟩ <;> rfl
    have hxl : ex.length ≤ 1 := by rcases hex with rfl | ⟨z, rfl⟩ <;> simp
    refine W_assignTup (.inr (.inl (.head _))) (W_ordCons (W_assignSub (W_local rfl (W_int fun t30 => W_setItemD (isI w _ _) .head (by simp; omega) ?_))))
    rw [hst]
    refine W_ordCons (W_assignSub (W_local rfl (W_int fun t31 => W_setItemD (isI w _ _) .head (by simp; omega) (W_ordNil (ts := []) ?_))))
    rw [hst2]
    refine W_cons (W_Return (W_local rfl ?_))
    intro h S
    refine ⟨DeckLed w dx lf Dn, (S.freeze).subP (fun _ h => (nomatch h)), Ends.same rfl, ?_, ?_⟩
    · rw [hT]
    have Sf := S.freeze
    have gtd := (S.nw _ (.head _)).2.2
    refine ⟨_, td, rfl, fun p hp => ⟨(Sf.ps p hp).1, ?_, (Sf.ps p hp).2.2⟩, fun g hg => ?_⟩
    · rcases List.mem_cons.mp hp with rfl | hp
      · exact gtd
      simp only [List.mem_cons] at hp
      rcases hp with rfl | rfl | rfl | rfl | rfl | rfl | rfl | hp <;> first | assumption | exact hP _ hp
    · rw [hT]
      refine ⟨_, htd, hg _ (.head _), ?_⟩
      rw [List.append_assoc, List.append_assoc]
      have hk := hK g fun p hp => hg p (by repeat first | exact hp | apply List.Mem.tail)
      have := All2.app hk (.cons ⟨rfl, rowC2 (hg (r73, _) (by repeat first | exact List.Mem.head _ | apply List.Mem.tail)) n73 (tI1 (hg (ta, _) (by repeat first | exact List.Mem.head _ | apply List.Mem.tail))) (tI1 (hg (tb, _) (by repeat first | exact List.Mem.head _ | apply List.Mem.tail)))⟩ (.cons ⟨rfl, rowC2 (hg (r30, _) (by repeat first | exact List.Mem.head _ | apply List.Mem.tail)) n30 (tI2 (hg (tc, _) (by repeat first | exact List.Mem.head _ | apply List.Mem.tail))) (tI1 (hg (te, _) (by repeat first | exact List.Mem.head _ | apply List.Mem.tail)))⟩ .nil) : ToldKv w g [(73, .ref r73), (304, .ref r30)] ([(73, [("C", [105]), ("T", [305])]), (304, [("F", [105, 775]), ("T", [105])])] : List (Int × Row)))
      rw [List.append_assoc, List.append_assoc] at this
      exact this
end Nt
end
section
open PySem PySem.W PyProof.Rows PySem.Calls
set_option maxRecDepth 100000
set_option autoImplicit false
set_option linter.unusedVariables false
theorem Nt.valueAt_stored' {K : Type} [DecidableEq K] (kvs : List (K × PySem.Value)) (k k' : K) (v : PySem.Value) : PySem.valueAt (PySem.stored kvs k v) k' = if k' = k then some v else PySem.valueAt kvs k' := by
  unfold PySem.stored
  by_cases hany : (kvs.any fun kv => decide (kv.1 = k)) = true
  · rw [if_pos hany]
    unfold PySem.valueAt
    induction kvs with
    | nil => simp at hany
    | cons kv r ih =>
      rw [List.map_cons, List.find?_cons]
      by_cases h : kv.1 = k
      · rw [if_pos h]
        by_cases q : k' = k
        · subst q; simp [h]
        · have h' : ¬ kv.1 = k' := fun e => q (e.symm.trans h)
          rw [if_neg q, List.find?_cons]
          simp only [decide_eq_false h']
          by_cases hr : (r.any fun kv => decide (kv.1 = k)) = true
          · rw [ih hr, if_neg q]
          · have : (r.map fun kv => if kv.1 = k then (kv.1, v) else kv) = r := by
              rw [List.any_eq_true] at hr
              have hr' : ∀ x ∈ r, ¬ x.1 = k := fun x hx e => hr ⟨x, hx, by simpa using e⟩
              conv => rhs; rw [← List.map_id r]
              exact List.map_congr_left fun x hx => by rw [if_neg (hr' x hx)]; rfl
            rw [this]
      · rw [if_neg h]
        have hr : (r.any fun kv => decide (kv.1 = k)) = true := by simpa [h] using hany
        by_cases q : kv.1 = k'
        · have q' : ¬ k' = k := fun e => h (q.trans e)
          rw [if_neg q', List.find?_cons]
          simp [q]
        · rw [List.find?_cons]
          simp only [decide_eq_false q]
          exact ih hr
  · rw [if_neg hany]
    unfold PySem.valueAt
    rw [List.find?_append]
    by_cases q : k' = k
    · subst q
      have : (kvs.find? fun kv => decide (kv.1 = k')) = none := by
        rw [List.find?_eq_none]; intro x hx e
        exact hany (List.any_eq_true.mpr ⟨x, hx, e⟩)
      rw [this]; simp
    · have : ¬ k = k' := fun e => q e.symm
      rw [if_neg q]
      cases kvs.find? fun kv => decide (kv.1 = k') <;> simp [this]
theorem Nt.stored_len {K : Type} [DecidableEq K] (kvs : List (K × PySem.Value)) (k : K) (v : PySem.Value) : (PySem.stored kvs k v).length ≤ kvs.length + 1 := by
  unfold PySem.stored
  split <;> simp
namespace Nt
section
variable {w : World} {G : Heap} {L : Addr} {d : Nat} {P N : Led} {m : Vars} {env : Env} {QL : List Value → Led → Led → Vars → Prop} {QP : List (Value × Value) → Led → Led → Vars → Prop}
inductive I12_1 (e : Expr) (s : Str) : Prop
  | mk (k : Nat) (p : Pos) (hh1 : e = Expr.Constant (.str s) k p)
/-- a display of strings -/
noncomputable def StrCs (es : List Expr) (ss : List Str) : Prop := All2 (fun e s => (I12_1 e s)) es ss
theorem W_argsStrs {pos : Pos} {es : List Expr} {ss : List Str} (h : StrCs es ss) : ∀ {QL : List Value → Led → Led → Vars → Prop}, (∀ vs, All2 isStrV vs ss → QL vs P N m) → W w G L d (spliced (backTo pos (starEach es env))) P N m QL := by
  unfold StrCs at h
  induction h with
  | nil => intro QL q; exact W_argsNil (q _ .nil)
  | @cons e s es ss hh _ ih =>
    intro QL q
    obtain ⟨k, p, rfl⟩ := hh
    exact W_argsCons (W_str fun t => ih fun vs hv => q _ (.cons ⟨t, rfl⟩ hv))
end
noncomputable def cfO (w : World) (p : Prop) (n : Nat) : OP := fun o => ∃ kvs : List (Str × Value), kvs.length ≤ n ∧ (p → valueAt kvs ("cf" : Str) = some .none) ∧ dk (strKind prg w) kvs o
noncomputable abbrev names1 : List Str := ["gcb", "wb", "sb"]
noncomputable abbrev names2 : List Str := ["ex", "sd", "cased", "ci", "ep", "di", "ids", "idc", "xids", "xidc", "pat_syn", "pat_ws", "idst"]
noncomputable abbrev names3 : List Str := ["dm", "uc", "lc", "tc", "cf", "bm", "bpb", "scx", "nt", "nv", "name", "conf", "nfkc_cf"]
noncomputable abbrev names4 : List Str := ["suc", "slc", "stc", "alias"]
inductive I12_2 (w : World) (N : Led) (m : Vars) : Prop
  | mk (r : Addr) (u : Option Value) (hh1 : (r == sysModules) = false) (hh2 : N = [(r, cfO w False 10)]) (hh3 : m = ([("found", some (.ref r)), ("name", u)] : Vars))
theorem data_defaults_spec {w : World} : Fn w 5 (.ref 373) [] [] (fun G => True) (fun G v N' _ => ∃ r, v = .ref r ∧ (r == sysModules) = false ∧ N' = [(r, cfO w True 900)]) := by
  refine Fn.of_body (names := ["found", "name"]) (m₀ := [("found", none), ("name", none)]) rfl rfl (fun _ _ => .of_eq rfl) rfl rfl rfl ?_
  intro G L B _
  refine W.letE ?_
  intro en0 Qf0
  refine W_cut (fun P N m => (I12_2 w N m)) ?_ ?_
  · refine W_AssignName (W_Dict (strKind prg w) fun r hr => W_pairsCons (W_str fun t1 => W_str fun t2 => W_pairsCons (W_str fun t3 => W_int fun t4 => W_pairsCons (W_str fun t5 => W_str fun t6 => W_pairsCons (W_str fun t7 => W_str fun t8 => W_pairsCons (W_str fun t9 => W_str fun t10 => W_pairsCons (W_str fun t11 => W_str fun t12 => W_pairsCons (W_str fun t13 => W_str fun t14 => W_pairsCons (W_str fun t15 => W_str fun t16 => W_pairsNil ?_)))))))))
    refine ⟨[(_, .str _ t2), (_, .int _ t4), (_, .str _ t6), (_, .str _ t8), (_, .str _ t10), (_, .str _ t12), (_, .str _ t14), (_, .str _ t16)], _, ⟨isS w _ t1, rfl, isS w _ t3, rfl, isS w _ t5, rfl, isS w _ t7, rfl, isS w _ t9, rfl, isS w _ t11, rfl, isS w _ t13, rfl, isS w _ t15, rfl, trivial⟩, by simp, .head, ?_⟩
    refine W.cls (p' := cfO w False 10) .head (fun o y => ⟨_, Nat.le_of_ble_eq_true rfl, fun e => e.elim, y⟩) (W_store ⟨r, none, hr, rfl, rfl⟩)
  rintro P N m ⟨r, u, hr, rfl, rfl⟩
  refine W_cut (fun P N m => ∃ u : Option Value, N = [(r, cfO w (False) 13)] ∧ m = ([("found", some (.ref r)), ("name", u)] : Vars)) ?_ ?_
  · refine W_ForG (W_Tuple (W_argsStrs (ss := names1) (by repeat' constructor) fun vs hvs => W_newTuple (by rw [hvs.length, sizeLine_eq]; decide) fun tp htp => ?_))
    refine ⟨vs.length, _, fun i N m => ∃ u : Option Value, N = [(r, cfO w (False) (10 + i))] ∧ m = ([("found", some (.ref r)), ("name", u)] : Vars), .tuple (.inl (.head _)), ⟨u, rfl, rfl⟩, ?_, ?_⟩
    · rintro G' le i v N m hi hv ⟨u, rfl, rfl⟩
      obtain ⟨s, hs, ts, rfl⟩ := hvs.getL i v hv
      have hil : i < 3 := by have := hvs.length; simp at this; omega
      refine W_assignName (W_store ?_)
      refine W.opn (β := List (Str × Value)) (F := fun kvs => kvs.length ≤ 10 + i ∧ ((False) → valueAt kvs ("cf" : Str) = some .none)) (p' := fun kvs => dk (strKind prg w) kvs) (.head _) (fun o ⟨kvs, a, b, c⟩ => ⟨kvs, ⟨a, b⟩, c⟩) (fun _ => .head) fun kvs ⟨hl, hcf⟩ => ?_
      refine W_cons (W_AssignSub (W_str fun t1 => (W_local rfl (W_local rfl (W_setItemD (isS w _ _) .head (by omega) ?_)))))
      refine W.cls (p' := cfO w (False) (10 + (i + 1))) .head (fun o y => ⟨_, Nat.le_trans (stored_len _ _ _) (by omega), fun q => ?_, y⟩) (W_nil ⟨fun p hp => hp, _, rfl, rfl⟩)
      exact q.elim
    · rintro N m ⟨u, rfl, rfl⟩
      have e : vs.length = 3 := hvs.length
      rw [e]
      exact ⟨u, rfl, rfl⟩
  rintro P N m ⟨u, rfl, rfl⟩
  refine W_cut (fun P N m => ∃ u : Option Value, N = [(r, cfO w (False) 26)] ∧ m = ([("found", some (.ref r)), ("name", u)] : Vars)) ?_ ?_
  · refine W_ForG (W_Tuple (W_argsStrs (ss := names2) (by repeat' constructor) fun vs hvs => W_newTuple (by rw [hvs.length, sizeLine_eq]; decide) fun tp htp => ?_))
    refine ⟨vs.length, _, fun i N m => ∃ u : Option Value, N = [(r, cfO w (False) (13 + i))] ∧ m = ([("found", some (.ref r)), ("name", u)] : Vars), .tuple (.inl (.head _)), ⟨u, rfl, rfl⟩, ?_, ?_⟩
    · rintro G' le i v N m hi hv ⟨u, rfl, rfl⟩
      obtain ⟨s, hs, ts, rfl⟩ := hvs.getL i v hv
      have hil : i < 13 := by have := hvs.length; simp at this; omega
      refine W_assignName (W_store ?_)
      refine W.opn (β := List (Str × Value)) (F := fun kvs => kvs.length ≤ 13 + i ∧ ((False) → valueAt kvs ("cf" : Str) = some .none)) (p' := fun kvs => dk (strKind prg w) kvs) (.head _) (fun o ⟨kvs, a, b, c⟩ => ⟨kvs, ⟨a, b⟩, c⟩) (fun _ => .head) fun kvs ⟨hl, hcf⟩ => ?_
      refine W_cons (W_AssignSub (W_boolC (W_local rfl (W_local rfl (W_setItemD (isS w _ _) .head (by omega) ?_)))))
      refine W.cls (p' := cfO w (False) (13 + (i + 1))) .head (fun o y => ⟨_, Nat.le_trans (stored_len _ _ _) (by omega), fun q => ?_, y⟩) (W_nil ⟨fun p hp => hp, _, rfl, rfl⟩)
      exact q.elim
    · rintro N m ⟨u, rfl, rfl⟩
      have e : vs.length = 13 := hvs.length
      rw [e]
      exact ⟨u, rfl, rfl⟩
  rintro P N m ⟨u, rfl, rfl⟩
  refine W.cls (p' := cfO w (5 ≤ 0) 26) .head (fun o ⟨kvs, a, _, c⟩ => ⟨kvs, a, fun e => absurd e (by decide), c⟩) ?_
  refine W_cut (fun P N m => ∃ u : Option Value, N = [(r, cfO w (5 ≤ 13) 39)] ∧ m = ([("found", some (.ref r)), ("name", u)] : Vars)) ?_ ?_
  · refine W_ForG (W_Tuple (W_argsStrs (ss := names3) (by repeat' constructor) fun vs hvs => W_newTuple (by rw [hvs.length, sizeLine_eq]; decide) fun tp htp => ?_))
    refine ⟨vs.length, _, fun i N m => ∃ u : Option Value, N = [(r, cfO w (5 ≤ i) (26 + i))] ∧ m = ([("found", some (.ref r)), ("name", u)] : Vars), .tuple (.inl (.head _)), ⟨u, rfl, rfl⟩, ?_, ?_⟩
    · rintro G' le i v N m hi hv ⟨u, rfl, rfl⟩
      obtain ⟨s, hs, ts, rfl⟩ := hvs.getL i v hv
      have hil : i < 13 := by have := hvs.length; simp at this; omega
      refine W_assignName (W_store ?_)
      refine W.opn (β := List (Str × Value)) (F := fun kvs => kvs.length ≤ 26 + i ∧ ((5 ≤ i) → valueAt kvs ("cf" : Str) = some .none)) (p' := fun kvs => dk (strKind prg w) kvs) (.head _) (fun o ⟨kvs, a, b, c⟩ => ⟨kvs, ⟨a, b⟩, c⟩) (fun _ => .head) fun kvs ⟨hl, hcf⟩ => ?_
      refine W_cons (W_AssignSub (W_none (W_local rfl (W_local rfl (W_setItemD (isS w _ _) .head (by omega) ?_)))))
      refine W.cls (p' := cfO w (5 ≤ (i + 1)) (26 + (i + 1))) .head (fun o y => ⟨_, Nat.le_trans (stored_len _ _ _) (by omega), fun q => ?_, y⟩) (W_nil ⟨fun p hp => hp, _, rfl, rfl⟩)
      rw [valueAt_stored']
      by_cases h4 : i = 4
      · subst h4
        obtain rfl : ("cf" : Str) = s := by simpa [names3] using hs
        rw [if_pos rfl]
      · split
        · rfl
        · exact hcf (by omega)
    · rintro N m ⟨u, rfl, rfl⟩
      have e : vs.length = 13 := hvs.length
      rw [e]
      exact ⟨u, rfl, rfl⟩
  rintro P N m ⟨u, rfl, rfl⟩
  refine W.cls (p' := cfO w True 39) .head (fun o ⟨kvs, a, b, c⟩ => ⟨kvs, a, fun _ => b (by decide), c⟩) ?_
  refine W_cut (fun P N m => ∃ u : Option Value, N = [(r, cfO w (True) 43)] ∧ m = ([("found", some (.ref r)), ("name", u)] : Vars)) ?_ ?_
  · refine W_ForG (W_Tuple (W_argsStrs (ss := names4) (by repeat' constructor) fun vs hvs => W_newTuple (by rw [hvs.length, sizeLine_eq]; decide) fun tp htp => ?_))
    refine ⟨vs.length, _, fun i N m => ∃ u : Option Value, N = [(r, cfO w (True) (39 + i))] ∧ m = ([("found", some (.ref r)), ("name", u)] : Vars), .tuple (.inl (.head _)), ⟨u, rfl, rfl⟩, ?_, ?_⟩
    · rintro G' le i v N m hi hv ⟨u, rfl, rfl⟩
      obtain ⟨s, hs, ts, rfl⟩ := hvs.getL i v hv
      have hil : i < 4 := by have := hvs.length; simp at this; omega
      refine W_assignName (W_store ?_)
      refine W.opn (β := List (Str × Value)) (F := fun kvs => kvs.length ≤ 39 + i ∧ ((True) → valueAt kvs ("cf" : Str) = some .none)) (p' := fun kvs => dk (strKind prg w) kvs) (.head _) (fun o ⟨kvs, a, b, c⟩ => ⟨kvs, ⟨a, b⟩, c⟩) (fun _ => .head) fun kvs ⟨hl, hcf⟩ => ?_
      refine W_cons (W_AssignSub (W_Tuple (W_argsNil (W_newTuple (by rw [sizeLine_eq]; simp) fun te hte => (W_local rfl (W_local rfl (W_setItemD (isS w _ _) .head (by omega) ?_)))))))
      refine W.cls (p' := cfO w (True) (39 + (i + 1))) .head (fun o y => ⟨_, Nat.le_trans (stored_len _ _ _) (by omega), fun q => ?_, y⟩) (W_nil ⟨fun p hp => .tail _ hp, _, rfl, rfl⟩)
      rw [valueAt_stored', if_neg, hcf trivial]
      rintro rfl
      have := List.mem_of_getElem? hs
      exact absurd this (by decide)
    · rintro N m ⟨u, rfl, rfl⟩
      have e : vs.length = 4 := hvs.length
      rw [e]
      exact ⟨u, rfl, rfl⟩
  rintro P N m ⟨u, rfl, rfl⟩
  refine W.opn (β := List (Str × Value)) (F := fun kvs => kvs.length ≤ 43 ∧ (True → valueAt kvs ("cf" : Str) = some .none)) (p' := fun kvs => dk (strKind prg w) kvs) (.head _) (fun o ⟨kvs, a, b, c⟩ => ⟨kvs, ⟨a, b⟩, c⟩) (fun _ => .head) fun kvs ⟨hl, hcf⟩ => ?_
  refine W_cons (W_AssignSub (W_Tuple (W_argsCons (W_str fun t1 => W_argsCons (W_Tuple (W_argsNil (W_newTuple (by rw [sizeLine_eq]; simp) fun te hte => ?_)))))))
  refine W_argsNil (W_newTuple (by rw [sizeLine_eq]; simp) fun tf htf => W_local rfl (W_str fun t2 => W_setItemD (isS w _ _) .head (by omega) ?_))
  refine W_cons (W_Return (W_local rfl fun h S => ⟨[(r, cfO w True 900)], (S.subP (P' := []) (fun _ h => (nomatch h))).cls .head fun o y => ⟨_, Nat.le_trans (stored_len _ _ _) (by omega), fun _ => ?_, y⟩, Ends.nil, r, rfl, hr, rfl⟩))
  rw [valueAt_stored', if_neg (by decide), hcf trivial]
end Nt
end
section
open PySem PySem.W PyProof.Rows PySem.Calls
set_option maxRecDepth 100000
set_option autoImplicit false
set_option linter.unusedVariables false
namespace Nt
inductive I13_1 (w : World) (dx : Addr) (N' : Led) : Prop
  | mk (df : Addr) (mp : Addr) (pr : Addr) (wo : Addr) (hh1 : (df == sysModules) = false) (hh2 : (mp == sysModules) = false) (hh3 : N' = [(wo, dk (strKind prg w) []), (pr, dk (strKind prg w) []), (mp, dk (strKind prg w) []), (df, cfO w True 900), (dx, att 4 [("defaults", some (.ref df)), ("maps", some (.ref mp)), ("properties", some (.ref pr)), ("words", some (.ref wo))])])
theorem data_init_spec {w : World} {x dx : Addr} : Fn w 7 (.ref 387) [.ref x] [(dx, att 0 [])] (fun G => Has G x (ins 411 dx)) (fun _ v N' _ => v = .none ∧ (I13_1 w dx N')) := by
  refine Fn.of_body (names := ["self"]) (m₀ := [("self", some (.ref x))]) rfl rfl (fun _ _ => .of_eq rfl) rfl rfl rfl ?_
  intro G L B hx
  refine W.letE ?_
  intro en0 Qf0
  have rx : ∀ {P N : Led}, Rd G P N x (ins 411 dx) := .inr (.inr hx)
  refine W_cons (W_AssignAttr (W_CallName (W_global (v := .ref 373) rfl (W_callWithF0 rfl ?_))))
  refine W_callPE (N0 := []) (data_defaults_spec.le (by decide)) (.refl _) (fun _ _ => trivial) fun v N' g h' ⟨df, e, hdf, e2⟩ => ?_
  subst e e2
  refine W_local rfl (W_setAttr (cls_Data w) rx (.tail .head) (by decide) rfl ?_)
  refine W_cons (W_AssignAttr (W_DictEmpty (strKind prg w) fun mp hmp => W_local rfl (W_setAttr (cls_Data w) rx (.tail (.tail .head)) (by decide) rfl ?_)))
  refine W_cons (W_AssignAttr (W_DictEmpty (strKind prg w) fun pr hpr => W_local rfl (W_setAttr (cls_Data w) rx (.tail (.tail (.tail .head))) (by decide) rfl ?_)))
  refine W_cons (W_AssignAttr (W_DictEmpty (strKind prg w) fun wo hwo => W_local rfl (W_setAttr (cls_Data w) rx (.tail (.tail (.tail (.tail .head)))) (by decide) rfl ?_)))
  refine W_nil fun h S => ⟨_, S, Ends.nil, rfl, df, mp, pr, wo, hdf, hmp, rfl⟩
inductive I13_2 (dx : Addr) (N' : Led) : Prop
  | mk (sa : Addr) (va : Addr) (t : Tok) (hh1 : N' = [(va, lst [.none]), (sa, lst [.int 0 t]), (dx, att 3 [("default", some .none), ("starts", some (.ref sa)), ("values", some (.ref va))])])
theorem rm_init_spec {w : World} {x dx : Addr} : Fn w 4 (.ref 187) [.ref x, .none] [(dx, att 0 [])] (fun G => Has G x (ins 216 dx)) (fun _ v N' _ => v = .none ∧ (I13_2 dx N')) := by
  refine Fn.of_body (names := ["self", "default"]) (m₀ := [("self", some (.ref x)), ("default", some .none)]) rfl rfl (fun _ _ => .of_eq rfl) rfl rfl rfl ?_
  intro G L B hx
  refine W.letE ?_
  intro en0 Qf0
  have rx : ∀ {P N : Led}, Rd G P N x (ins 216 dx) := .inr (.inr hx)
  refine W_cons (W_AssignAttr (W_local rfl (W_local rfl (W_setAttr (cls_RangeMap w) rx .head (by decide) rfl ?_))))
  refine W_cons (W_AssignAttr (W_List (W_argsCons (W_int fun t => W_argsNil (W_newList (by rw [sizeLine_eq]; simp) fun sa => W_local rfl (W_setAttr (cls_RangeMap w) rx (.tail .head) (by decide) rfl ?_))))))
  refine W_cons (W_AssignAttr (W_List (W_argsCons (W_local rfl (W_argsNil (W_newList (by rw [sizeLine_eq]; simp) fun va => W_local rfl (W_setAttr (cls_RangeMap w) rx (.tail (.tail .head)) (by decide) rfl ?_)))))))
  refine W_nil fun h S => ⟨_, S, Ends.nil, rfl, sa, va, t, rfl⟩
inductive I13_3 (a : Option Row) (b : Option Row) : Prop
  | mk (x : List Int) (y : List Int) (hh1 : a = some [(("C" : Str), x)]) (hh2 : b = some [(("C" : Str), y)]) (hh3 : x ≠ y)
noncomputable def LikeOk (a b : Option Row) : Prop := a = none ∨ b = none ∨ (I13_3 a b)
noncomputable def likeB (a b : Option Row) : Bool := a.isNone && b.isNone
theorem like_spec {w : World} {v u : Value} {a b : Option Row} {H : Heap} (ha : ValAt w H v a) (hb : ValAt w H u b) (hl : LikeOk a b) :
    Fn w 4 (.ref 173) [v, u] [] (fun G => Le H G) (fun _ r _ _ => r = .bool (likeB a b)) := by
  refine Fn.of_body (names := ["one", "other"]) (m₀ := [("one", some v), ("other", some u)]) rfl rfl (fun _ _ => .of_eq rfl) rfl rfl rfl ?_
  intro G L B hG
  refine W.letE ?_
  intro en0 Qf0
  have rd : ∀ {P N : Led} {a : Addr} {p : OP}, Has H a p → Rd G P N a p := fun h => .inr (.inr (h.keeps hG))
  refine W_cons (W_Return (W_And2 (W_Compare1 (W_local rfl (W_local rfl ?_)))))
  cases a with
  | none =>
    obtain rfl : v = .none := ha
    cases b with
    | none =>
      obtain rfl : u = .none := hb
      refine W_eqNN ⟨true, rfl, fun e => (nomatch e), fun _ => ?_⟩
      refine W_Compare1 (W_CallName (W_builtin rfl rfl (W_callWithB (W_argsCons (W_local rfl (W_argsCons (W_builtin rfl rfl (W_argsNil (W_isiNone ?_)))))))))
      refine W_CallName (W_builtin rfl rfl (W_callWithB (W_argsCons (W_local rfl (W_argsCons (W_builtin rfl rfl (W_argsNil (W_isiNone (W_eqB ?_)))))))))
      exact fun h S => ⟨_, S, Ends.nil, rfl⟩
    | some r =>
      obtain ⟨q, kvs, rfl, hn, hq, hr⟩ := hb
      refine W_eqND (rd hq) ⟨false, rfl, fun _ h S => ⟨[], S, Ends.nil, rfl⟩, fun e => (nomatch e)⟩
  | some r =>
    obtain ⟨q, kvs, rfl, hn, hq, hr⟩ := ha
    cases b with
    | none =>
      obtain rfl : u = .none := hb
      refine W_eqDN (rd hq) ⟨false, rfl, fun _ h S => ⟨[], S, Ends.nil, rfl⟩, fun e => (nomatch e)⟩
    | some r2 =>
      obtain ⟨q2, kvs2, rfl, hn2, hq2, hr2⟩ := hb
      obtain ⟨x, y, e1, e2, hxy⟩ : I13_3 (some r) (some r2) := by
        rcases hl with h | h | h
        · cases h
        · cases h
        · exact h
      cases e1
      cases e2
      obtain ⟨t, rfl, ht⟩ : ∃ t, kvs = [(("C" : Str), .ref t)] ∧ Has H t (tupI x) := by
        cases hr with
        | cons hh h2 =>
          cases h2
          rename_i kv
          obtain ⟨k1, k2⟩ := kv
          obtain ⟨e, t, e2, ht⟩ := hh
          dsimp only at e e2
          subst e e2
          exact ⟨t, rfl, ht⟩
      obtain ⟨t2, rfl, ht2⟩ : ∃ t, kvs2 = [(("C" : Str), .ref t)] ∧ Has H t (tupI y) := by
        cases hr2 with
        | cons hh h2 =>
          cases h2
          rename_i kv
          obtain ⟨k1, k2⟩ := kv
          obtain ⟨e, t, e2, ht⟩ := hh
          dsimp only at e e2
          subst e e2
          exact ⟨t, rfl, ht⟩
      refine W_eqDD1 (x := ("C" : Str)) (rd hq) (rd hq2) hn hn2 (rd ht) (rd ht2) ?_
      rw [decide_eq_false hxy]
      exact ⟨false, rfl, fun _ h S => ⟨[], S, Ends.nil, rfl⟩, fun e => (nomatch e)⟩
end Nt
end
section
open PySem PySem.W PyProof.Rows PySem.Calls
set_option maxRecDepth 100000
set_option autoImplicit false
set_option maxHeartbeats 8000000
set_option linter.unusedVariables false
namespace Nt
noncomputable def lstV (w : World) (H : Heap) (vals : List (Option Row)) : OP := fun o => ∃ vvs, All2 (ValAt w H) vvs vals ∧ lst vvs o
noncomputable abbrev rmA (sa va : Addr) : Vars := [("default", some .none), ("starts", some (.ref sa)), ("values", some (.ref va))]
noncomputable def putStarts (starts : List Int) (c : Int) : List Int := starts.take (bis starts (c - 1)) ++ [c, c + 1] ++ starts.drop (bis starts (c + 1))
noncomputable def putVals (starts : List Int) (vals : List (Option Row)) (c : Int) (r : Option Row) : List (Option Row) := vals.take (bis starts (c - 1)) ++ [r, (vals[bis starts (c + 1) - 1]?).join] ++ vals.drop (bis starts (c + 1))
theorem All2.take {α β : Type} {R : α → β → Prop} {as : List α} {bs : List β} (x : All2 R as bs) : ∀ n, All2 R (as.take n) (bs.take n) := by
  induction x with
  | nil => intro n; simp; exact .nil
  | cons h _ ih => intro n; cases n with
    | zero => exact .nil
    | succ k => exact .cons h (ih k)
theorem All2.drop {α β : Type} {R : α → β → Prop} {as : List α} {bs : List β} (x : All2 R as bs) : ∀ n, All2 R (as.drop n) (bs.drop n) := by
  induction x with
  | nil => intro n; simp; exact .nil
  | cons h t ih => intro n; cases n with
    | zero => exact .cons h t
    | succ k => exact ih k
structure PutOk (starts : List Int) (vals : List (Option Row)) (c : Int) (r : Row) : Prop where
  lo : 1 ≤ c
  hi : c < 1114111
  sorted : starts.Pairwise (· ≤ ·)
  len : starts.length = vals.length
  small : starts.length ≤ 900
  one : 1 ≤ bis starts (c - 1)
  mono : bis starts (c - 1) ≤ bis starts (c + 1)
  behind : vals[bis starts (c + 1) - 1]? = some none
  before : ∃ b, vals[bis starts (c - 1) - 1]? = some b ∧ LikeOk b (some r)
inductive I14_1 (w : World) (dx : Addr) (c : Int) (n : Nat) (starts : List Int) (vals : List (Option Row)) (r : Row) (H : Heap) (N' : Led) : Prop
  | mk (sa' : Addr) (va' : Addr) (hh1 : N' = [(va', lstV w H (putVals starts vals c (some r))), (sa', lstI (putStarts starts c)), (dx, att (n + 2) (rmA sa' va'))])
theorem rm_put_spec {w : World} {x dx sa va : Addr} {c : Int} {t1 t2 : Tok} {v : Value} {n : Nat} {starts : List Int} {vals : List (Option Row)} {r : Row} {H : Heap} (hp : PutOk starts vals c r) (hv : ValAt w H v (some r)) (hn : n ≤ 900) :
    Fn w 8 (.ref 201) [.ref x, .int c t1, .int c t2, v] [(dx, att n (rmA sa va)), (sa, lstI starts), (va, lstV w H vals)] (fun G => Le H G ∧ Has G x (ins 216 dx))
      (fun _ v N' _ => v = .none ∧ (I14_1 w dx c n starts vals r H N')) := by
  refine Fn.of_body (names := ["self", "first", "last", "value", "low", "high", "behind", "starts", "values"]) (m₀ := [("self", some (.ref x)), ("first", some (.int c t1)), ("last", some (.int c t2)), ("value", some v), ("low", none), ("high", none), ("behind", none), ("starts", none), ("values", none)]) rfl rfl (fun _ _ => .of_eq rfl) rfl rfl rfl ?_
  intro G L B ⟨hG, hx⟩
  refine W.letE ?_
  intro en0 Qf0
  have rx : ∀ {P N : Led}, Rd G P N x (ins 216 dx) := .inr (.inr hx)
  refine W.opnI (.tail _ (.head _)) (fun _ => .tail .head) fun svs hsi => ?_
  refine W.opn (β := List Value) (F := fun vvs => All2 (ValAt w H) vvs vals) (p' := fun vvs => lst vvs) (.tail _ (.tail _ (.head _))) (fun o y => y) (fun _ => .tail (.tail .head)) fun vvs hvi => ?_
  have hl1 := hsi.length
  have hl2 := hvi.length
  have hlen := hp.len
  have hsm := hp.small
  have hlo := hp.lo
  have hhi := hp.hi
  have hone := hp.one
  have hmono := hp.mono
  have hb1 : bis starts (c - 1) ≤ starts.length := bis_le _ _
  have hb2 : bis starts (c + 1) ≤ starts.length := bis_le _ _
  generalize hlow : bis starts (c - 1) = lo at *
  generalize hhigh : bis starts (c + 1) = hi at *
  refine W_cons (W_If (W_isTrueCompare (W_local rfl (W_local rfl (W_gt (W_truthyBool ⟨fun e => absurd (of_decide_eq_true e) (by omega), fun _ => W_nil ?_⟩))))))
  -- low
  refine W_cons (W_AssignName (W_BinOp (W_CallName (W_global (v := .ref 28) rfl (W_callWithF rfl (W_argsCons (W_Attr (W_local rfl (W_getAttr (cls_RangeMap w) rx (.inl (.head _)) rfl ?_ rfl rfl)))))))))
  refine W_argsCons (W_BinOp (W_local rfl (W_int fun t3 => W_sub fun t4 => W_argsNil ?_)))
  refine W_call0ES ((place_by_half_spec hsi hp.sorted (by omega)).le (by decide)) (fun g' S => (S.nw _ (.tail _ (.head _))).1) fun v1 F g' h' ⟨t5, e⟩ => ?_
  subst e
  rw [hlow]
  refine W_int fun t6 => W_add fun t7 => W_store ?_
  -- high
  refine W_cons (W_AssignName (W_BinOp (W_CallName (W_global (v := .ref 28) rfl (W_callWithF rfl (W_argsCons (W_Attr (W_local rfl (W_getAttr (cls_RangeMap w) rx (.inl (.head _)) rfl ?_ rfl rfl)))))))))
  refine W_argsCons (W_BinOp (W_local rfl (W_int fun t8 => W_add fun t9 => W_argsNil ?_)))
  refine W_call0ES ((place_by_half_spec hsi hp.sorted (by omega)).le (by decide)) (fun g' S => (S.nw _ (.tail _ (.head _))).1) fun v2 F g' h' ⟨t10, e⟩ => ?_
  subst e
  rw [hhigh]
  refine W_int fun t11 => W_add fun t12 => W_store ?_
  have elo : (lo : Int) - 1 + 1 = lo := by omega
  have ehi : (hi : Int) - 1 + 1 = hi := by omega
  rw [elo, ehi]
  -- behind
  obtain ⟨bh, hbh, hbv⟩ := hvi.get _ _ hp.behind
  obtain rfl : bh = .none := hbv
  refine W_cons (W_AssignName (W_Subscript (W_Attr (W_local rfl (W_getAttr (cls_RangeMap w) rx (.inl (.head _)) rfl ?_ rfl rfl)))))
  refine W_BinOp (W_local rfl (W_int fun t13 => W_sub fun t14 => W_itemL (.inl (.tail _ (.tail _ (.head _)))) (by omega) (by rw [← hbh]; congr 1; omega) (by omega) (W_store ?_)))
  -- starts, values
  refine W_cons (W_Swap2 (W_argsCons (W_List (W_argsCons (W_local rfl (W_argsNil (W_newList (by rw [sizeLine_eq]; simp) fun s1 => ?_)))))))
  refine W_argsCons (W_List (W_argsCons (W_local rfl (W_argsNil (W_newList (by rw [sizeLine_eq]; simp) fun v1 => ?_)))))
  refine W_argsNil ⟨_, _, rfl, W_store (W_store ?_)⟩
  have nlike : ∀ b, likeB b (some r) = false := fun b => by unfold likeB; simp
  -- the first test
  refine W_cons (W_If (W_isTrueAnd (W_andCons (W_isTrueCompare (W_local rfl (W_global (v := .int 1114111 _) rfl (W_lt (W_truthyBool ⟨fun _ => ?_, fun e => absurd (of_decide_eq_false e) (by omega)⟩))))))))
  refine W_andCons (W_isTrueNot (W_isTrueCall (W_CallName (W_global (v := .ref 173) rfl (W_callWithF rfl (W_argsCons (W_local rfl (W_argsCons (W_local rfl (W_argsNil ?_))))))))))
  refine W_call0E ((like_spec (a := none) (b := some r) rfl hv (.inl rfl)).le (by decide)) (fun g' S b o e => S _ _ (hG _ _ e)) fun v3 F g' h' e => ?_
  subst e
  rw [nlike]
  refine W_truthyBool ⟨fun _ => W_andNil ⟨fun _ => ?_, fun e => (nomatch e)⟩, fun e => (nomatch e)⟩
  refine W_cons (W_Expr (W_CallMeth (W_local rfl (W_mL PySem.F.slot_list_append (.inl (.tail _ (.head _))) (W_callWithB (W_argsCons (W_BinOp (W_local rfl (W_int fun t15 => W_add fun t16 => W_argsNil (W_append (.tail .head) (by rw [sizeLine_eq]; simp) ?_))))))))))
  refine W_cons (W_Expr (W_CallMeth (W_local rfl (W_mL PySem.F.slot_list_append (.inl (.head _)) (W_callWithB (W_argsCons (W_local rfl (W_argsNil (W_append .head (by rw [sizeLine_eq]; simp) ?_)))))))))
  refine W_nil ?_
  -- the second
  obtain ⟨b0, hb0, hlike⟩ := hp.before
  obtain ⟨bv, hbv, hbva⟩ := hvi.get _ _ hb0
  refine W_cons (W_If (W_isTrueAnd (W_andCons (W_isTrueCompare (W_local rfl (W_int fun t17 => W_gt (W_truthyBool ⟨fun _ => ?_, fun e => absurd (of_decide_eq_false e) (by omega)⟩)))))))
  refine W_andCons (W_isTrueCall (W_CallName (W_global (v := .ref 173) rfl (W_callWithF rfl (W_argsCons (W_Subscript (W_Attr (W_local rfl (W_getAttr (cls_RangeMap w) rx (.inl (.tail _ (.tail _ (.head _)))) rfl ?_ rfl rfl)))))))))
  refine W_BinOp (W_local rfl (W_int fun t18 => W_sub fun t19 => W_itemL (.inl (.tail _ (.tail _ (.tail _ (.tail _ (.head _)))))) (by omega) (by rw [← hbv]; congr 1; omega) (by omega) ?_))
  refine W_argsCons (W_local rfl (W_argsNil ?_))
  refine W_call0 ((like_spec hbva hv hlike).le (by decide)) (fun g' S b o e => S.keep _ _ (hG _ _ e)) fun v3 F g' h' S1 k S2 e => ⟨_, _, _, S2, ?_⟩
  subst e
  rw [nlike]
  refine W_truthyBool ⟨fun e => (nomatch e), fun _ => ⟨fun e => (nomatch e), fun _ => W_nil ?_⟩⟩
  -- self.starts
  refine W_cons (W_AssignAttr (W_BinOp (W_BinOp (W_Subscript (W_Attr (W_local rfl (W_getAttr (cls_RangeMap w) rx (.inl (.tail _ (.tail _ (.head _)))) rfl ?_ rfl rfl)))))))
  refine W_SliceE (W_partNone (W_partSome (W_local rfl fun z1 hz1 => W_takeL (.inl (.tail _ (.tail _ (.tail _ (.head _))))) (.inr (.inl (.head _))) (by omega) (by omega) fun q1 => ?_)))
  refine W_local rfl (W_addL (.inl (.head _)) (.inl (.tail _ (.tail _ (.head _)))) (by simp; omega) fun q2 => ?_)
  refine W_Subscript (W_Attr (W_local rfl (W_getAttr (cls_RangeMap w) rx (.inl (.tail _ (.tail _ (.tail _ (.tail _ (.head _)))))) rfl ?_ rfl rfl)))
  refine W_SliceE (W_partSome (W_local rfl (W_partNone fun z2 hz2 => W_dropL (.inl (.tail _ (.tail _ (.tail _ (.tail _ (.tail _ (.head _))))))) (.inr (.inl (.head _))) (by omega) (by omega) fun q3 => ?_)))
  refine W_addL (.inl (.tail _ (.head _))) (.inl (.head _)) (by simp; omega) fun q4 => ?_
  refine W_local rfl (W_setAttr (cls_RangeMap w) rx (.tail (.tail (.tail (.tail (.tail (.tail .head)))))) (by omega) rfl ?_)
  refine W.st (fun h S => S.subN (.cons_cons _ (.cons _ (.cons _ (.cons _ (.cons_cons _ (.cons _ (.cons_cons _ (.cons _ (.cons_cons _ .slnil)))))))))) (x := ?_)
  -- self.values
  refine W_cons (W_AssignAttr (W_BinOp (W_BinOp (W_Subscript (W_Attr (W_local rfl (W_getAttr (cls_RangeMap w) rx (.inl (.tail _ (.tail _ (.head _)))) rfl ?_ rfl rfl)))))))
  refine W_SliceE (W_partNone (W_partSome (W_local rfl fun z1 hz1 => W_takeL (.inl (.tail _ (.tail _ (.tail _ (.head _))))) (.inr (.inl (.head _))) (by omega) (by omega) fun p1 => ?_)))
  refine W_local rfl (W_addL (.inl (.head _)) (.inl (.tail _ (.tail _ (.head _)))) (by simp; omega) fun p2 => ?_)
  refine W_Subscript (W_Attr (W_local rfl (W_getAttr (cls_RangeMap w) rx (.inl (.tail _ (.tail _ (.tail _ (.tail _ (.head _)))))) rfl ?_ rfl rfl)))
  refine W_SliceE (W_partSome (W_local rfl (W_partNone fun z2 hz2 => W_dropL (.inl (.tail _ (.tail _ (.tail _ (.tail _ (.tail _ (.head _))))))) (.inr (.inl (.head _))) (by omega) (by omega) fun p3 => ?_)))
  refine W_addL (.inl (.tail _ (.head _))) (.inl (.head _)) (by simp; omega) fun p4 => ?_
  refine W_local rfl (W_setAttr (cls_RangeMap w) rx (.tail (.tail (.tail (.tail (.tail (.tail .head)))))) (by omega) rfl ?_)
  refine W_nil fun h S => ?_
  have S1 := (S.subP (P' := []) (fun _ h => (nomatch h))).subN (.cons_cons _ (.cons _ (.cons _ (.cons _ (.cons_cons _ (.cons _ (.cons_cons _ (.cons _ .slnil))))))))
  have S2 := (S1.cls (p' := lstV w H (putVals starts vals c (some r))) .head fun o y => ⟨_, ?_, y⟩).cls (p' := lstI (putStarts starts c)) (.tail .head) fun o y => ⟨_, ?_, y⟩
  · exact ⟨_, S2, Ends.nil, rfl, q4, p4, rfl⟩
  · unfold putVals
    have hbeh : vals[hi - 1]? = some none := by rw [← hhigh]; exact hp.behind
    rw [hlow, hhigh, hbeh]
    exact ((hvi.take _).app (All2.cons (b := some r) hv (All2.cons (b := none) (show ValAt w H .none none from rfl) .nil))).app (hvi.drop _)
  · unfold putStarts
    rw [hlow, hhigh]
    exact ((IntsAre.take hsi _).append (.cons _ _ (.cons _ _ .nil))).append (IntsAre.drop hsi _)
end Nt
end
section
open PySem PySem.W PyProof.Rows PySem.Calls
set_option maxRecDepth 100000
set_option autoImplicit false
set_option linter.unusedVariables false
namespace Nt
noncomputable abbrev daA (df : Value) (mp : Addr) (pr wo : Value) : Vars := [("defaults", some df), ("maps", some (.ref mp)), ("properties", some pr), ("words", some wo)]
/-- what of a Data object does not change -/
structure DataFix (w : World) (G : Heap) (x dx df mp : Addr) (pr wo : Value) : Prop where
  hx : Has G x (ins 411 dx)
  hd : Has G dx (att 900 (daA (.ref df) mp pr wo))
  hf : Has G df (cfO w True 900)
  ndf : (df == sysModules) = false
  nmp : (mp == sysModules) = false
theorem DataFix.keeps {w : World} {G G' : Heap} {x dx df mp : Addr} {pr wo : Value} (k : Le G G') (D : DataFix w G x dx df mp pr wo) : DataFix w G' x dx df mp pr wo := ⟨D.hx.keeps k, D.hd.keeps k, D.hf.keeps k, D.ndf, D.nmp⟩
theorem cf_stored {v : Value} : stored [] ("cf" : Str) v = [(("cf" : Str), v)] := rfl
inductive I15_1 (w : World) (mp : Addr) (v : Value) (N' : Led) : Prop
  | mk (rm : Addr) (rdx : Addr) (sa : Addr) (va : Addr) (t : Tok) (hh1 : v = .ref rm) (hh2 : N' = [(mp, dk (strKind prg w) [(("cf" : Str), .ref rm)]), (rm, ins 216 rdx), (rdx, att 3 (rmA sa va)), (sa, lst [.int 0 t]), (va, lst [.none])])
inductive I15_2 (w : World) (x : Addr) (mp : Addr) (ts : Tok) (N : Led) (m : Vars) : Prop
  | mk (rm : Addr) (rdx : Addr) (sa : Addr) (va : Addr) (t : Tok) (hh1 : N = [(mp, dk (strKind prg w) [(("cf" : Str), .ref rm)]), (rm, ins 216 rdx), (rdx, att 3 (rmA sa va)), (sa, lst [.int 0 t]), (va, lst [.none])]) (hh2 : m = ([("self", some (.ref x)), ("name", some (.str "cf" ts))] : Vars))
theorem map_of_new {w : World} {x dx df mp : Addr} {pr wo : Value} {ts : Tok} :
    Fn w 9 (.ref 408) [.ref x, .str "cf" ts] [(mp, dk (strKind prg w) ([] : List (Str × Value)))] (fun G => DataFix w G x dx df mp pr wo)
      (fun _ v N' _ => (I15_1 w mp v N')) := by
  refine Fn.of_body (names := ["self", "name"]) (m₀ := [("self", some (.ref x)), ("name", some (.str "cf" ts))]) rfl rfl (fun _ _ => .of_eq rfl) rfl rfl rfl ?_
  intro G L B D
  refine W.letE ?_
  intro en0 Qf0
  have rx : ∀ {P N : Led}, Rd G P N x (ins 411 dx) := .inr (.inr D.hx)
  have rd : ∀ {P N : Led}, Rd G P N dx (att 900 (daA (.ref df) mp pr wo)) := .inr (.inr D.hd)
  obtain ⟨of_, hof, fk, hfl, hcf, hfk⟩ := D.hf
  have rf : ∀ {P N : Led}, Rd G P N df (dk (strKind prg w) fk) := .inr (.inr ⟨_, hof, hfk⟩)
  refine W_cut (fun P N m => (I15_2 w x mp ts N m)) ?_ ?_
  · refine W_If (W_isTrueCompare (W_local rfl (W_Attr (W_local rfl (W_getAttr (cls_Data w) rx rd rfl ?_ rfl rfl)))))
    refine W_notInD (isS w _ _) (.inl (.head _)) D.nmp (W_truthyBool ⟨fun _ => ?_, fun e => (nomatch e)⟩)
    refine W_cons (W_AssignSub (W_CallName (W_global (v := .ref 216) rfl (W_callWithF rfl (W_argsCons (W_CallMeth (W_Attr (W_local rfl (W_getAttr (cls_Data w) rx rd rfl ?_ rfl rfl)))))))))
    refine W_mGetD rf (W_callWithB (W_argsCons (W_local rfl (W_argsNil (W_getD1 (isS w _ _) rf D.ndf ?_)))))
    rw [hcf trivial]
    refine W_argsNil (W_new (cls_RangeMap w) rfl rfl (fun x dx => rm_init_spec.le (by decide)) (fun x dx g S => (S.ps _ (.head _)).1) fun rm rdx N' v g h' hxG hxP S1 k S2 _ ⟨e, sa, va, t, e2⟩ => ⟨e, ?_⟩)
    subst e2
    refine ⟨_, _, _, (S2.thaw hxG hxP).perm (N' := [(mp, dk (strKind prg w) ([] : List (Str × Value))), (rm, ins 216 rdx), (rdx, att 3 (rmA sa va)), (sa, lst [.int 0 t]), (va, lst [.none])]) ?_, ?_⟩
    · exact (List.reverse_perm _).symm.trans (by
        show [(mp, dk (strKind prg w) ([] : List (Str × Value))), (rdx, att 3 (rmA sa va)), (sa, lst [.int 0 t]), (va, lst [.none]), (rm, ins 216 rdx)].Perm _
        exact .cons _ ((List.perm_append_comm (l₁ := [(rdx, att 3 (rmA sa va)), (sa, lst [.int 0 t]), (va, lst [.none])]) (l₂ := [(rm, ins 216 rdx)]))))
    refine W_Attr (W_local rfl (W_getAttr (cls_Data w) rx rd rfl ?_ rfl rfl))
    refine W_local rfl (W_setItemD (isS w _ _) .head (by decide) ?_)
    rw [cf_stored]
    exact W_nil ⟨rm, rdx, sa, va, t, rfl, rfl⟩
  · rintro P N m ⟨rm, rdx, sa, va, t, rfl, rfl⟩
    refine W_cons (W_Return (W_Subscript (W_Attr (W_local rfl (W_getAttr (cls_Data w) rx rd rfl ?_ rfl rfl)))))
    refine W_local rfl (W_itemD (isS w _ _) (.inl (.head _)) cf_value ?_)
    exact fun h S => ⟨_, S.subP (fun _ h => (nomatch h)), Ends.nil, rm, rdx, sa, va, t, rfl, rfl⟩
theorem map_of_old {w : World} {x dx df mp rm : Addr} {pr wo : Value} {ts : Tok} :
    Fn w 9 (.ref 408) [.ref x, .str "cf" ts] [] (fun G => DataFix w G x dx df mp pr wo ∧ Has G mp (dk (strKind prg w) [(("cf" : Str), .ref rm)])) (fun _ v N' _ => v = .ref rm) := by
  refine Fn.of_body (names := ["self", "name"]) (m₀ := [("self", some (.ref x)), ("name", some (.str "cf" ts))]) rfl rfl (fun _ _ => .of_eq rfl) rfl rfl rfl ?_
  intro G L B ⟨D, hm⟩
  refine W.letE ?_
  intro en0 Qf0
  have rx : ∀ {P N : Led}, Rd G P N x (ins 411 dx) := .inr (.inr D.hx)
  have rd : ∀ {P N : Led}, Rd G P N dx (att 900 (daA (.ref df) mp pr wo)) := .inr (.inr D.hd)
  have rm' : ∀ {P N : Led}, Rd G P N mp (dk (strKind prg w) [(("cf" : Str), .ref rm)]) := .inr (.inr hm)
  refine W_cons (W_If (W_isTrueCompare (W_local rfl (W_Attr (W_local rfl (W_getAttr (cls_Data w) rx rd rfl ?_ rfl rfl))))))
  refine W_notInD (isS w _ _) rm' D.nmp (W_truthyBool ⟨fun e => (nomatch e), fun _ => W_nil ?_⟩)
  refine W_cons (W_Return (W_Subscript (W_Attr (W_local rfl (W_getAttr (cls_Data w) rx rd rfl ?_ rfl rfl)))))
  refine W_local rfl (W_itemD (isS w _ _) rm' cf_value ?_)
  exact fun h S => ⟨_, S, Ends.nil, rfl⟩
noncomputable def MapLed (w : World) (H : Heap) (mp rm rdx : Addr) (n : Nat) (sa va : Addr) (starts : List Int) (vals : List (Option Row)) : Led :=
  [(mp, dk (strKind prg w) [(("cf" : Str), .ref rm)]), (rm, ins 216 rdx), (rdx, att n (rmA sa va)), (sa, lstI starts), (va, lstV w H vals)]
inductive I15_3 (w : World) (mp : Addr) (c : Int) (r : Row) (H : Heap) (N' : Led) : Prop
  | mk (rm : Addr) (rdx : Addr) (sa : Addr) (va : Addr) (hh1 : N' = MapLed w H mp rm rdx 5 sa va (putStarts [0] c) (putVals [0] [none] c (some r)))
theorem data_put_new {w : World} {x dx df mp : Addr} {pr wo : Value} {ts : Tok} {c : Int} {t1 t2 : Tok} {v : Value} {r : Row} {H : Heap} (hp : PutOk [0] [none] c r) (hv : ValAt w H v (some r)) :
    Fn w 10 (.ref 394) [.ref x, .str "cf" ts, .int c t1, .int c t2, v] [(mp, dk (strKind prg w) ([] : List (Str × Value)))] (fun G => Le H G ∧ DataFix w G x dx df mp pr wo)
      (fun _ _ N' _ => (I15_3 w mp c r H N')) := by
  refine Fn.of_body (names := ["self", "name", "first", "last", "value"]) (m₀ := [("self", some (.ref x)), ("name", some (.str "cf" ts)), ("first", some (.int c t1)), ("last", some (.int c t2)), ("value", some v)]) rfl rfl (fun _ _ => .of_eq rfl) rfl rfl rfl ?_
  intro G L B ⟨hG, D⟩
  refine W.letE ?_
  intro en0 Qf0
  have rx : ∀ {P N : Led}, Rd G P N x (ins 411 dx) := .inr (.inr D.hx)
  have rd : ∀ {P N : Led}, Rd G P N dx (att 900 (daA (.ref df) mp pr wo)) := .inr (.inr D.hd)
  refine W_cons (W_Expr (W_CallMeth (W_CallMeth (W_local rfl (W_getMeth (cls_Data w) rx rd rfl rfl rfl (W_callWithF rfl (W_argsCons (W_local rfl (W_argsNil ?_)))))))))
  refine W_callPE (N0 := [(mp, dk (strKind prg w) ([] : List (Str × Value)))]) (R := []) (map_of_new.le (by decide)) (.refl _) (fun g S => D.keeps S) fun v' N' g h' ⟨rm, rdx, sa, va, t, e, e2⟩ => ?_
  subst e e2
  refine ?_
  refine W.cls (p' := lstI [0]) (.tail (.tail (.tail .head))) (fun o y => ⟨_, .cons _ _ .nil, y⟩) (W.cls (p' := lstV w H [none]) (.tail (.tail (.tail (.tail .head)))) (fun o y => ⟨_, .cons rfl .nil, y⟩) ?_)
  refine W_getMeth (cls_RangeMap w) (.inl (.tail _ (.head _))) (.inl (.tail _ (.tail _ (.head _)))) rfl rfl rfl (W_callWithF rfl (W_argsCons (W_local rfl (W_argsCons (W_local rfl (W_argsCons (W_local rfl (W_argsNil ?_))))))))
  refine W_callPES ((rm_put_spec hp hv (by decide)).le (by decide)) (List.perm_append_comm (l₁ := [_, _]) (l₂ := [_, _, _])) (fun g S => ⟨fun b o e => S.keep _ _ (hG _ _ e), (S.nw _ (.tail _ (.head _))).1⟩) fun v' N' g h' ⟨e, sa', va', e2⟩ => ?_
  subst e e2
  refine W_nil fun h S => ⟨MapLed w H mp rm rdx 5 sa' va' (putStarts [0] c) (putVals [0] [none] c (some r)), S.perm ?_, Ends.nil, rm, rdx, sa', va', rfl⟩
  exact (List.perm_append_comm (l₁ := [_, _, _]) (l₂ := [_, _])).trans (.cons _ (.cons _ (List.reverse_perm _).symm))
inductive I15_4 (w : World) (mp : Addr) (rm : Addr) (rdx : Addr) (n : Nat) (c : Int) (r : Row) (H : Heap) (starts : List Int) (vals : List (Option Row)) (N' : Led) : Prop
  | mk (sa' : Addr) (va' : Addr) (hh1 : N' = MapLed w H mp rm rdx (n + 2) sa' va' (putStarts starts c) (putVals starts vals c (some r)))
theorem data_put_old {w : World} {x dx df mp rm rdx sa va : Addr} {n : Nat} {pr wo : Value} {ts : Tok} {c : Int} {t1 t2 : Tok} {v : Value} {r : Row} {H : Heap} {starts : List Int} {vals : List (Option Row)} (hp : PutOk starts vals c r) (hv : ValAt w H v (some r)) (hn : n ≤ 900) :
    Fn w 10 (.ref 394) [.ref x, .str "cf" ts, .int c t1, .int c t2, v] (MapLed w H mp rm rdx n sa va starts vals) (fun G => Le H G ∧ DataFix w G x dx df mp pr wo)
      (fun _ _ N' _ => (I15_4 w mp rm rdx n c r H starts vals N')) := by
  refine Fn.of_body (names := ["self", "name", "first", "last", "value"]) (m₀ := [("self", some (.ref x)), ("name", some (.str "cf" ts)), ("first", some (.int c t1)), ("last", some (.int c t2)), ("value", some v)]) rfl rfl (fun _ _ => .of_eq rfl) rfl rfl rfl ?_
  intro G L B ⟨hG, D⟩
  refine W.letE ?_
  intro en0 Qf0
  have rx : ∀ {P N : Led}, Rd G P N x (ins 411 dx) := .inr (.inr D.hx)
  have rd : ∀ {P N : Led}, Rd G P N dx (att 900 (daA (.ref df) mp pr wo)) := .inr (.inr D.hd)
  refine W_cons (W_Expr (W_CallMeth (W_CallMeth (W_local rfl (W_getMeth (cls_Data w) rx rd rfl rfl rfl (W_callWithF rfl (W_argsCons (W_local rfl (W_argsNil ?_)))))))))
  refine W_call0ES (map_of_old.le (by decide)) (fun g S => ⟨D.keeps S.keep, (S.nw _ (.head _)).1⟩) fun v' F g h' e => ?_
  subst e
  refine ?_
  refine W_getMeth (cls_RangeMap w) (.inl (.tail _ (.head _))) (.inl (.tail _ (.tail _ (.head _)))) rfl rfl rfl (W_callWithF rfl (W_argsCons (W_local rfl (W_argsCons (W_local rfl (W_argsCons (W_local rfl (W_argsNil ?_))))))))
  refine W_callPES ((rm_put_spec hp hv hn).le (by decide)) (List.perm_append_comm (l₁ := [_, _]) (l₂ := [_, _, _])) (fun g S => ⟨fun b o e => S.keep _ _ (hG _ _ e), (S.nw _ (.tail _ (.head _))).1⟩) fun v' N' g h' ⟨e, sa', va', e2⟩ => ?_
  subst e e2
  refine W_nil fun h S => ⟨MapLed w H mp rm rdx (n + 2) sa' va' (putStarts starts c) (putVals starts vals c (some r)), S.perm ?_, Ends.nil, sa', va', rfl⟩
  exact (List.perm_append_comm (l₁ := [_, _, _]) (l₂ := [_, _])).trans (.cons _ (.cons _ (List.reverse_perm _).symm))
end Nt
end
section
open PySem PySem.W PyProof.Rows PySem.Calls
set_option maxRecDepth 100000
set_option autoImplicit false
set_option linter.unusedVariables false
namespace Nt
noncomputable abbrev Rw := Int × Int × Option Row
noncomputable def rowAtI (starts : List Int) (vals : List (Option Row)) (i : Nat) : Rw := (starts.getD i 0, if i + 1 < starts.length then starts.getD (i + 1) 0 - 1 else 1114111, vals.getD i none)
noncomputable def rowsOf (starts : List Int) (vals : List (Option Row)) : List Rw := (List.range vals.length).map (rowAtI starts vals)
inductive I16_1 (w : World) (H : Heap) (T : Led) (v : Value) (ρ : Rw) : Prop
  | mk (t : Addr) (ta : Tok) (tb : Tok) (u : Value) (hh1 : v = .ref t) (hh2 : (t, tup [.int ρ.1 ta, .int ρ.2.1 tb, u]) ∈ T) (hh3 : ValAt w H u ρ.2.2)
noncomputable def RL (w : World) (H : Heap) (rows : List Rw) (vs : List Value) (T : Led) : Prop := All2 (fun (v : Value) (ρ : Rw) => (I16_1 w H T v ρ)) vs rows
theorem RL.add {w : World} {H : Heap} {rows : List Rw} {vs : List Value} {T : Led} (x : RL w H rows vs T) {t : Addr} {a b : Int} {ta tb : Tok} {u : Value} {o : Option Row} (hu : ValAt w H u o) :
    RL w H (rows ++ [(a, b, o)]) (vs ++ [.ref t]) ((t, tup [.int a ta, .int b tb, u]) :: T) :=
  All2.app (All2.mono (fun _ _ ⟨t, ta, tb, u, e, h, z⟩ => ⟨t, ta, tb, u, e, .tail _ h, z⟩) x) (.cons ⟨t, ta, tb, u, rfl, .head _, hu⟩ .nil)
inductive I16_2 (w : World) (starts : List Int) (vals : List (Option Row)) (H : Heap) (v : Value) (N' : Led) : Prop
  | mk (r : Addr) (vs : List Value) (T : Led) (hh1 : v = .ref r) (hh2 : N' = T ++ [(r, lst vs)]) (hh3 : RL w H (rowsOf starts vals) vs T)
inductive I16_3 (w : World) (x : Addr) (starts : List Int) (vals : List (Option Row)) (H : Heap) (sa : Addr) (r : Addr) (N : Led) (m : Vars) : Prop
  | mk (vs : List Value) (T : Led) (a : Option Value) (b : Option Value) (c : Option Value) (hh1 : N = T ++ [(r, lst vs)]) (hh2 : RL w H (rowsOf starts vals) vs T) (hh3 : m = ([("range_map", some (.ref x)), ("starts", some (.ref sa)), ("found", some (.ref r)), ("at", a), ("value", b), ("last", c)] : Vars))
inductive I16_4 (w : World) (x : Addr) (starts : List Int) (vals : List (Option Row)) (H : Heap) (sa : Addr) (r : Addr) (i : Nat) (N : Led) (m : Vars) : Prop
  | mk (vs : List Value) (T : Led) (a : Option Value) (b : Option Value) (c : Option Value) (hh1 : N = T ++ [(r, lst vs)]) (hh2 : RL w H ((List.range i).map (rowAtI starts vals)) vs T) (hh3 : m = ([("range_map", some (.ref x)), ("starts", some (.ref sa)), ("found", some (.ref r)), ("at", a), ("value", b), ("last", c)] : Vars))
theorem range_rows_spec {w : World} {x : Addr} {starts : List Int} {vals : List (Option Row)} {H : Heap} (hH : RmAt w H x starts vals) (hlen : starts.length = vals.length) (hsm : starts.length ≤ 900) :
    Fn w 6 (.ref 227) [.ref x] [] (fun G => Le H G) (fun _ v N' _ => (I16_2 w starts vals H v N')) := by
  refine Fn.of_body (names := ["range_map", "starts", "found", "at", "value", "last"]) (m₀ := [("range_map", some (.ref x)), ("starts", none), ("found", none), ("at", none), ("value", none), ("last", none)]) rfl rfl (fun _ _ => .of_eq rfl) rfl rfl rfl ?_
  intro G L B hG
  refine W.letE ?_
  intro en0 Qf0
  obtain ⟨dx, sa, va, svs, vvs, hx, hd, hs, hv, is, iv⟩ := hH
  have rd : ∀ {P N : Led} {a : Addr} {p : OP}, Has H a p → Rd G P N a p := fun h => .inr (.inr (h.keeps hG))
  have hl1 := is.length
  have hl2 := iv.length
  refine W_cons (W_Swap2 (W_argsCons (W_Attr (W_local rfl (W_getAttr (cls_RangeMap w) (rd hx) (rd hd) rfl ?_ rfl rfl)))))
  refine W_argsCons (W_List (W_argsNil (W_newList (by rw [sizeLine_eq]; simp) fun r => W_argsNil ⟨_, _, rfl, W_store (W_store ?_)⟩)))
  refine W_cut (fun P N m => (I16_3 w x starts vals H sa r N m)) ?_ ?_
  · refine W_ForEnum (W_CallName (W_builtin rfl rfl (W_callWithT (W_argsCons (W_Attr (W_local rfl (W_getAttr (cls_RangeMap w) (rd hx) (rd hd) rfl ?_ rfl rfl)))))))
    refine W_argsNil ?_
    refine W.fact (fun h S => (S.rp (.inr (hv.keeps hG))).2.2) fun hva => ?_
    refine W_enumL (rd hv) fun e it => ⟨e, it, va, vvs, _, fun i N m => (I16_4 w x starts vals H sa r i N m), rfl, rfl, .inr (hv.keeps hG), hva, ⟨[], [], none, none, none, rfl, .nil, rfl⟩, ?_, ?_⟩
    · rintro G' le i v t N m hvi ⟨vs, T, a, b, c, rfl, hrl, rfl⟩
      have rd' : ∀ {P N : Led} {a : Addr} {p : OP}, Has H a p → Rd G' P N a p := fun h => .inr (.inr ((h.keeps hG).keeps le))
      have hil := (List.getElem?_eq_some_iff.mp hvi).1
      obtain ⟨o, ho, hvo⟩ := iv.getL i v hvi
      have hvl : vs.length = i := by have := All2.length hrl; simpa using this
      refine W_ordCons (W_assignName (W_store (W_ordCons (W_assignName (W_store (W_ordNil (ts := []) ?_))))))
      -- the end of the row
      refine W_cut (fun P N m => P = [] ∧ N = T ++ [(r, lst vs)] ∧ ∃ t2, m = ([("range_map", some (.ref x)), ("starts", some (.ref sa)), ("found", some (.ref r)), ("at", some (.int i t)), ("value", some v), ("last", some (.int (rowAtI starts vals i).2.1 t2))] : Vars)) ?_ ?_
      · refine W_AssignName (W_IfExp (W_isTrueCompare (W_BinOp (W_local rfl (W_int fun t3 => W_add fun t4 => ?_)))))
        refine W_CallName (W_builtin rfl rfl (W_callWithB (W_argsCons (W_local rfl (W_argsNil (W_lenL (rd' hs) (by omega) fun t5 => W_lt (W_truthyBool ⟨fun h1 => ?_, fun h1 => ?_⟩)))))))
        · have h1 := of_decide_eq_true h1
          have hlt : i + 1 < starts.length := by omega
          obtain ⟨t6, ht6⟩ := is.get (i + 1) starts[i + 1] (by simp [hlt])
          refine W_BinOp (W_Subscript (W_local rfl (W_BinOp (W_local rfl (W_int fun t7 => W_add fun t8 => W_itemL (rd' hs) (by omega (config := {})) ht6 (by omega (config := {})) ?_)))))
          refine W_int fun t9 => W_sub fun t10 => W_store ⟨rfl, rfl, t10, ?_⟩
          have hg2 : starts.getD (i + 1) 0 = starts[i + 1] := by rw [List.getD_eq_getElem?_getD, List.getElem?_eq_getElem hlt]; rfl
          unfold rowAtI
          rw [if_pos hlt, hg2]
          rfl
        · have h1 := of_decide_eq_false h1
          have e : (rowAtI starts vals i).2.1 = 1114111 := by unfold rowAtI; rw [if_neg (by omega)]
          rw [e]
          exact W_global (v := .int 1114111 _) rfl (W_store ⟨rfl, rfl, _, rfl⟩)
      · rintro P N m ⟨rfl, rfl, t2, rfl⟩
        have hlt : i < starts.length := by omega
        obtain ⟨t6, ht6⟩ := is.get i starts[i] (by simp [hlt])
        refine W_cons (W_Expr (W_CallMeth (W_local rfl (W_mL (vs := vs) PySem.F.slot_list_append (.inl (List.mem_append_right _ (.head _))) (W_callWithB (W_argsCons (W_Tuple (W_argsCons (W_Subscript (W_local rfl (W_local rfl (W_itemL (rd' hs) (by omega) ht6 (by omega) ?_))))))))))))
        refine W_argsCons (W_local rfl (W_argsCons (W_local rfl (W_argsNil (W_newTupleN (by rw [sizeLine_eq]; simp) fun q => W_argsNil ?_)))))
        refine W_append (.tail (Upd.app .head T)) (by rw [sizeLine_eq]; omega) (W_nil ⟨fun p hp => ?_, _, _ :: T, _, _, _, rfl, ?_, rfl⟩)
        · exact hp
        · rw [List.range_succ, List.map_append]
          have e1 : rowAtI starts vals i = (starts[i], (rowAtI starts vals i).2.1, o) := by
            have hg1 : starts.getD i 0 = starts[i] := by rw [List.getD_eq_getElem?_getD, List.getElem?_eq_getElem hlt]; rfl
            have hg2 : vals.getD i none = o := by rw [List.getD_eq_getElem?_getD, ho]; rfl
            unfold rowAtI
            rw [hg1, hg2]
          rw [List.map_cons, List.map_nil, e1]
          exact RL.add hrl hvo
    · rintro N m ⟨vs, T, a, b, c, rfl, hrl, rfl⟩
      rw [hl2] at hrl
      exact ⟨vs, T, a, b, c, rfl, hrl, rfl⟩
  · rintro P N m ⟨vs, T, a, b, c, rfl, hrl, rfl⟩
    exact W_cons (W_Return (W_local rfl fun h S => ⟨_, S.subP fun _ h => (nomatch h), Ends.nil, r, vs, T, rfl, rfl, hrl⟩))
end Nt
end
section
open PySem PySem.W PyProof.Rows PySem.Calls
set_option maxRecDepth 100000
set_option autoImplicit false
set_option linter.unusedVariables false
namespace Nt
noncomputable def setRows (starts : List Int) (vals : List (Option Row)) : List Rw := (rowsOf starts vals).filter fun ρ => ρ.2.2.isSome
theorem filter_take_succ {α : Type} (p : α → Bool) {l : List α} {i : Nat} {a : α} (h : l[i]? = some a) : (l.take (i + 1)).filter p = (l.take i).filter p ++ (if p a = true then [a] else []) := by
  rw [List.take_add_one, h, List.filter_append]
  cases hp : p a <;> simp [hp]
inductive I17_1 (w : World) (starts : List Int) (vals : List (Option Row)) (H : Heap) (v : Value) (N' : Led) : Prop
  | mk (r : Addr) (ys : List Value) (T : List (Addr × OP)) (hh1 : v = .ref r) (hh2 : N' = (r, lst ys) :: T) (hh3 : RL w H (setRows starts vals) ys T)
theorem ranges_spec {w : World} {x : Addr} {starts : List Int} {vals : List (Option Row)} {H : Heap} (hH : RmAt w H x starts vals) (hlen : starts.length = vals.length) (hsm : starts.length ≤ 900) :
    Fn w 7 (.ref 206) [.ref x] [] (fun G => Le H G) (fun _ v N' _ => (I17_1 w starts vals H v N')) := by
  refine Fn.of_bodyC (names := []) (m₀ := []) (Nc := fun L => [(L + 1, cellp (some (.ref x)))]) rfl rfl rfl rfl (by decide) (fun L => lk_bindL (names := []) rfl rfl) (fun L => rfl) ?_
  intro G L B hG
  refine W.letE ?_
  intro en0 Qf0
  have hH' := hH
  obtain ⟨dx, sa, va, svs, vvs, hx, hd, hs, hv, is, iv⟩ := hH
  refine W_cons (W_Return (W_ListCompG ?_))
  refine W.post (W_CallName (W_global (v := .ref 227) rfl (W_callWithF rfl (W_argsCons (W_cell (c := L + 1) rfl (.inl (.head _)) (W_argsNil ?_))))))
  refine W_call (N0 := []) ((range_rows_spec hH' hlen hsm).le (by decide)) (fun g S b o e => S.keep _ _ (hG _ _ e)) fun v N' g h' S1 k S2 _ ⟨r, vs, T, e, e2, hrl⟩ => ?_
  subst e e2
  have hrows : (rowsOf starts vals).length = vals.length := by unfold rowsOf; simp
  have hvl : vs.length = vals.length := (All2.length hrl).trans hrows
  refine ⟨_, _, _, S2.perm (N' := (r, lst vs) :: (T ++ [(L + 1, cellp (some (.ref x)))])) ?_, fun h S => ⟨_, _, _, S.freeze, vs.length, _, fun i ys N => N = T ++ [(L + 1, cellp (some (.ref x)))] ∧ RL w H (((rowsOf starts vals).take i).filter fun ρ => ρ.2.2.isSome) ys T, ?_, rfl, .list (.inl (.head _)), ⟨rfl, .nil⟩, ?_, ?_⟩⟩
  · show ((T ++ [(r, lst vs)]) ++ [(L + 1, cellp (some (.ref x)))]).Perm _
    rw [List.append_assoc]
    exact List.perm_middle
  · rw [sizeLine_eq]; omega
  · rintro G' le C i v ys N hi hv ⟨rfl, hys⟩ hlen2
    obtain ⟨⟨a, b, o⟩, hρ, t, ta, tb, u, rfl, hm, hvo⟩ := hrl.getL i v hv
    have rd' : ∀ {P N : Led} {a : Addr} {p : OP}, Has H a p → Rd G' P N a p := fun h => .inr (.inr ((h.keeps hG).keeps le))
    have mc : (L + 1, cellp (some (.ref x))) ∈ T ++ [(L + 1, cellp (some (.ref x)))] := List.mem_append_right _ (.head _)
    refine W_tests1 (W_isTrueNot (W_isTrueCall (W_CallName (W_global (v := .ref 173) rfl (W_callWithF rfl (W_argsCons (W_Subscript (W_local rfl (W_int fun t1 => W_itemT (.inl (List.mem_append_left _ hm)) (by decide) (by decide) (j := 2) rfl rfl ?_)))))))))
    refine W_argsCons (W_Attr (W_cell (c := L + 1) rfl (.inl mc) (W_getAttr (cls_RangeMap w) (rd' hx) (rd' hd) rfl ?_ rfl rfl)))
    refine W_argsNil (W_call0E ((like_spec (b := none) hvo rfl (.inr (.inl rfl))).le (by decide)) (fun g' S b o e => S _ _ (le _ _ (hG _ _ e))) fun v3 F g' h' e => ?_)
    subst e
    refine W_truthyBool ⟨fun h1 => W_local rfl ⟨fun _ h => h, rfl, rfl, ?_⟩, fun h1 => ⟨fun _ h => h, rfl, rfl, ?_⟩⟩
    · have hsome : o.isSome = true := by cases o <;> simp_all [likeB]
      rw [filter_take_succ _ hρ, if_pos hsome]
      exact All2.app hys (.cons ⟨t, ta, tb, u, rfl, hm, hvo⟩ .nil)
    · have hnone : ¬ o.isSome = true := by cases o <;> simp_all [likeB]
      rw [filter_take_succ _ hρ, if_neg hnone, List.append_nil]
      exact hys
  · rintro ys N r2 ⟨rfl, hys⟩ hlen2
    have e : (rowsOf starts vals).take vs.length = rowsOf starts vals := by rw [hvl, ← hrows, List.take_length]
    rw [e] at hys
    exact fun h S => ⟨(r2, lst ys) :: T, (S.subP (P' := []) fun _ h => (nomatch h)).subN (.cons_cons _ (List.sublist_append_left ..)), Ends.nil, r2, ys, T, rfl, rfl, hys⟩
end Nt
end
section
open PySem PySem.W PyProof.Rows PySem.Calls
set_option autoImplicit false
set_option linter.unusedVariables false
namespace Nt
theorem small_two {b : Int} {n : Nat} (hsz : Builtin.Range.rangeSize 0 b 2 = n) (hb : 0 ≤ b) (hb' : b < 2 ^ 62) (hn : n ≤ b) : Builtin.Range.small 0 b 2 = true := by
  unfold Builtin.Range.small
  rw [hsz]
  simp only [Builtin.Range.rangeFitsLong, Bool.and_eq_true, Bool.or_eq_true, decide_eq_true_eq, beq_iff_eq, show (2 : Int) > 0 by decide, if_true]
  omega
end Nt
end
section
open PySem PySem.W PyProof.Rows PySem.Calls
set_option maxRecDepth 100000
set_option autoImplicit false
set_option linter.unusedVariables false
namespace Nt
inductive I18_1 (h : Heap) (x : Addr) (bounds : List Int) : Prop
  | mk (dx : Addr) (b : Addr) (hh1 : Has h x (ins 150 dx)) (hh2 : Has h dx (att 900 [("bounds", some (.ref b))])) (hh3 : Has h b (lstI bounds))
noncomputable def CsAt (h : Heap) (x : Addr) (bounds : List Int) : Prop := (I18_1 h x bounds)
theorem CsAt.keeps {h h' : Heap} {x : Addr} {bs : List Int} (k : Le h h') (c : CsAt h x bs) : CsAt h' x bs := let ⟨dx, b, h1, h2, h3⟩ := c; ⟨dx, b, h1.keeps k, h2.keeps k, h3.keeps k⟩
theorem cs_init_spec {w : World} {x dx b : Addr} : Fn w 4 (.ref 69) [.ref x, .ref b] [(dx, att 0 [])] (fun G => Has G x (ins 150 dx)) (fun _ v N' _ => v = .none ∧ N' = [(dx, att 1 [("bounds", some (.ref b))])]) := by
  refine Fn.of_body (names := ["self", "bounds"]) (m₀ := [("self", some (.ref x)), ("bounds", some (.ref b))]) rfl rfl (fun _ X => binds_K X rfl rfl rfl rfl rfl) rfl rfl rfl ?_
  intro G L B hx
  refine W.letE ?_
  intro en0 Qf0
  have rx : ∀ {P N : Led}, Rd G P N x (ins 150 dx) := .inr (.inr hx)
  refine W_cons (W_AssignAttr (W_IfExp (W_isTrueCompare (W_local rfl (W_none (W_is rfl (W_truthyBool ⟨fun e => (nomatch e), fun _ => ?_⟩)))))))
  refine W_local rfl (W_local rfl (W_setAttr (cls_CodeSet w) rx .head (by decide) rfl ?_))
  exact W_nil fun h S => ⟨_, S, Ends.nil, rfl, rfl⟩
noncomputable def hasS (bounds : List Int) (c : Int) : Bool := ((bis bounds c : Int) - 1).fmod 2 == 0
theorem cs_has_spec {w : World} {x : Addr} {c : Int} {tc : Tok} {bounds : List Int} {H : Heap} (hH : CsAt H x bounds) (hs : bounds.Pairwise (· ≤ ·)) (hl : bounds.length ≤ 1000) :
    Fn w 6 (.ref 86) [.ref x, .int c tc] [] (fun G => Le H G) (fun _ v _ _ => v = .bool (hasS bounds c)) := by
  refine Fn.of_body (names := ["self", "code"]) (m₀ := [("self", some (.ref x)), ("code", some (.int c tc))]) rfl rfl (fun _ _ => .of_eq rfl) rfl rfl rfl ?_
  intro G L B hG
  refine W.letE ?_
  intro en0 Qf0
  obtain ⟨dx, b, hx, hd, ob, hob, bvs, hbi, hbl⟩ := hH
  have rd : ∀ {P N : Led} {a : Addr} {p : OP}, Has H a p → Rd G P N a p := fun h => .inr (.inr (h.keeps hG))
  have hb : Has H b (lst bvs) := ⟨ob, hob, hbl⟩
  refine W_cons (W_Return (W_Compare1 (W_BinOp (W_CallName (W_global (v := .ref 28) rfl (W_callWithF rfl (W_argsCons (W_Attr (W_local rfl (W_getAttr (cls_CodeSet w) (rd hx) (rd hd) rfl ?_ rfl rfl))))))))))
  refine W_argsCons (W_local rfl (W_argsNil (W_call0E ((place_by_half_spec hbi hs (by omega)).le (by decide)) (fun g' S => (hb.keeps hG).keeps S) fun v F g' h' ⟨t, e⟩ => ?_)))
  subst e
  refine W_int fun t1 => W_mod (by decide) fun t2 => W_int fun t3 => W_eqI ?_
  exact fun h S => ⟨_, S, Ends.nil, rfl⟩
theorem cs_equals_spec {w : World} {x y : Addr} {bs cs : List Int} {H : Heap} (hx : CsAt H x bs) (hy : CsAt H y cs) :
    Fn w 4 (.ref 140) [.ref x, .ref y] [] (fun G => Le H G) (fun _ v _ _ => v = .bool (decide (bs = cs))) := by
  refine Fn.of_body (names := ["self", "other"]) (m₀ := [("self", some (.ref x)), ("other", some (.ref y))]) rfl rfl (fun _ _ => .of_eq rfl) rfl rfl rfl ?_
  intro G L B hG
  refine W.letE ?_
  intro en0 Qf0
  obtain ⟨dx, b, hx, hd, hb⟩ := hx
  obtain ⟨dy, c, hy, he, hc⟩ := hy
  have rd : ∀ {P N : Led} {a : Addr} {p : OP}, Has H a p → Rd G P N a p := fun h => .inr (.inr (h.keeps hG))
  refine W_cons (W_Return (W_Compare1 (W_Attr (W_local rfl (W_getAttr (cls_CodeSet w) (rd hx) (rd hd) rfl ?_ rfl rfl)))))
  refine W_Attr (W_local rfl (W_getAttr (cls_CodeSet w) (rd hy) (rd he) rfl (W_eqLL (rd hb) (rd hc) ?_) rfl rfl))
  exact fun h S => ⟨_, S, Ends.nil, rfl⟩
/-- a set of codes, as the runs [first, behind the last) -/
noncomputable def flat (bn : List (Int × Int)) : List Int := bn.flatMap fun p => [p.1, p.2]
theorem flat_length (bn : List (Int × Int)) : (flat bn).length = 2 * bn.length := by
  induction bn with
  | nil => rfl
  | cons p r ih => unfold flat at *; rw [List.flatMap_cons, List.length_append, ih]; simp; omega
theorem flat_get {bn : List (Int × Int)} : ∀ {i : Nat} {p : Int × Int}, bn[i]? = some p → (flat bn)[2 * i]? = some p.1 ∧ (flat bn)[2 * i + 1]? = some p.2 := by
  induction bn with
  | nil => intro i p h; simp at h
  | cons q r ih =>
    intro i p h
    have e : flat (q :: r) = q.1 :: q.2 :: flat r := rfl
    rw [e]
    cases i with
    | zero => obtain rfl : q = p := by simpa using h
              exact ⟨rfl, rfl⟩
    | succ j =>
      have := ih (i := j) (p := p) (by simpa using h)
      rw [show 2 * (j + 1) = 2 * j + 1 + 1 by omega]
      exact this
noncomputable def runs (bn : List (Int × Int)) : List (Int × Int) := bn.map fun p => (p.1, p.2 - 1)
inductive I18_2 (bn : List (Int × Int)) (v : Value) (N' : Led) : Prop
  | mk (r : Addr) (ys : List Value) (T : List (Addr × OP)) (hh1 : v = .ref r) (hh2 : N' = (r, lst ys) :: T) (hh3 : PL (runs bn) ys T)
theorem cs_ranges_spec {w : World} {x : Addr} {bn : List (Int × Int)} {H : Heap} (hH : CsAt H x (flat bn)) (hl : bn.length ≤ 400) :
    Fn w 6 (.ref 91) [.ref x] [] (fun G => Le H G) (fun _ v N' _ => (I18_2 bn v N')) := by
  refine Fn.of_bodyC (names := []) (m₀ := []) (Nc := fun L => [(L + 1, cellp (some (.ref x)))]) rfl rfl rfl rfl (by decide) (fun L => lk_bindL (names := []) rfl rfl) (fun L => rfl) ?_
  intro G L B hG
  refine W.letE ?_
  intro en0 Qf0
  obtain ⟨dx, b, hx, hd, ob, hob, bvs, hbi, hbl⟩ := hH
  have rd : ∀ {P N : Led} {a : Addr} {p : OP}, Has H a p → Rd G P N a p := fun h => .inr (.inr (h.keeps hG))
  have hb : Has H b (lst bvs) := ⟨ob, hob, hbl⟩
  have hfl := flat_length bn
  have hbl2 := hbi.length
  refine W_cons (W_Return (W_ListCompG ?_))
  refine W_CallName (W_builtin rfl rfl (W_callWithT (W_argsCons (W_int fun t1 => W_argsCons (W_CallName (W_builtin rfl rfl (W_callWithB (W_argsCons (W_Attr (W_cell (c := L + 1) rfl (.inl (.head _)) (W_getAttr (cls_CodeSet w) (rd hx) (rd hd) rfl ?_ rfl rfl)))))))))))
  refine W_argsNil (W_lenL (rd hb) (by omega) fun t2 => W_argsCons (W_int fun t3 => W_argsNil (W_range3 (by decide) (PyProof.noPylong_small (by omega)) fun rr hrr => ?_)))
  have hsz : Builtin.Range.rangeSize 0 (bvs.length : Int) 2 = (bn.length : Nat) := by
    rw [rangeSize_pos (by decide) (by omega)]
    omega
  have hsm : Builtin.Range.small 0 (bvs.length : Int) 2 = true := by
    exact small_two hsz (by omega) (by omega) (by omega)
  refine ⟨bn.length, _, fun i ys N => ∃ T, N = T ++ [(L + 1, cellp (some (.ref x)))] ∧ PL ((runs bn).take i) ys T, by rw [sizeLine_eq]; omega, rfl, Src.range (.inl (.head _)) hsm hsz, ⟨[], rfl, .nil⟩, ?_, ?_⟩
  · rintro G' le C i v ys N hi ⟨tv, rfl⟩ ⟨T, rfl, hys⟩ hlen2
    have rd' : ∀ {P N : Led} {a : Addr} {p : OP}, Has H a p → Rd G' P N a p := fun h => .inr (.inr ((h.keeps hG).keeps le))
    have mc : (L + 1, cellp (some (.ref x))) ∈ T ++ [(L + 1, cellp (some (.ref x)))] := List.mem_append_right _ (.head _)
    have hp : bn[i]? = some bn[i] := by simp [hi]
    obtain ⟨g1, g2⟩ := flat_get hp
    obtain ⟨u1, hu1⟩ := hbi.get _ _ g1
    obtain ⟨u2, hu2⟩ := hbi.get _ _ g2
    have k1 : ((0 : Int) + (i : Int) * 2).toNat = 2 * i := by omega (config := {})
    have k2 : ((0 : Int) + (i : Int) * 2 + 1).toNat = 2 * i + 1 := by omega (config := {})
    refine W_tests0 ⟨fun _ => W.post ?_, fun e => (nomatch e)⟩
    refine W_Tuple (W_argsCons (W_Subscript (W_Attr (W_cell (c := L + 1) rfl (.inl mc) (W_getAttr (cls_CodeSet w) (rd' hx) (rd' hd) rfl ?_ rfl rfl)))))
    refine W_local rfl (W_itemL (rd' hb) (by omega) (x := .int bn[i].1 u1) (by rw [k1]; exact hu1) (by omega) ?_)
    refine W_argsCons (W_BinOp (W_Subscript (W_Attr (W_cell (c := L + 1) rfl (.inl mc) (W_getAttr (cls_CodeSet w) (rd' hx) (rd' hd) rfl ?_ rfl rfl)))))
    refine W_BinOp (W_local rfl (W_int fun t4 => W_add fun t5 => W_itemL (rd' hb) (by omega) (x := .int bn[i].2 u2) (by rw [k2]; exact hu2) (by omega) ?_))
    refine W_int fun t6 => W_sub fun t7 => W_argsNil (W_newTupleN (by rw [sizeLine_eq]; simp) fun q => ?_)
    refine fun h S => ⟨_, _, _, S.nimp (p' := tupI [bn[i].1, bn[i].2 - 1]) fun o y => ⟨_, .cons _ _ (.cons _ _ .nil), y⟩, fun _ h => h, rfl, _ :: T, rfl, ?_⟩
    have hr : (runs bn)[i]? = some (bn[i].1, bn[i].2 - 1) := by unfold runs; rw [List.getElem?_map, hp]; rfl
    rw [List.take_add_one, hr]
    exact PL.add hys
  · rintro ys N r2 ⟨T, rfl, hys⟩ hlen2
    have e : (runs bn).take bn.length = runs bn := by rw [show bn.length = (runs bn).length by unfold runs; simp, List.take_length]
    rw [e] at hys
    exact fun h S => ⟨(r2, lst ys) :: T, (S.subP (P' := []) fun _ h => (nomatch h)).subN (.cons_cons _ (List.sublist_append_left ..)), Ends.nil, r2, ys, T, rfl, rfl, hys⟩
theorem fold_any_spec {w : World} {gx x : Addr} {group bounds : List Int} {H : Heap} (hH : CsAt H x bounds) (hs : bounds.Pairwise (· ≤ ·)) (hl : bounds.length ≤ 1000) :
    Fn w 8 (.ref 351) [.ref gx, .ref x] [] (fun G => Le H G ∧ Has G gx (lstI group)) (fun _ v _ _ => v = .bool (group.any (hasS bounds))) := by
  refine Fn.of_body (names := ["group", "codes", "one"]) (m₀ := [("group", some (.ref gx)), ("codes", some (.ref x)), ("one", none)]) rfl rfl (fun _ _ => .of_eq rfl) rfl rfl rfl ?_
  intro G L B ⟨hG, og, hog, gvs, hgi, hgl⟩
  refine W.letE ?_
  intro en0 Qf0
  obtain ⟨dx, b, hx, hd, hb⟩ := id hH
  refine W_cut (fun P N m => group.any (hasS bounds) = false ∧ N = []) ?_ ?_
  · refine W_For [] gvs.length (fun (i : Nat) (v : Value) => gvs[i]? = some v) (fun i N m => N = [] ∧ (group.take i).any (hasS bounds) = false ∧ ∃ u, m = ([("group", some (.ref gx)), ("codes", some (.ref x)), ("one", u)] : Vars)) ?_ ?_ ?_
    · exact W_local rfl ⟨rfl, .list (.inr ⟨_, hog, hgl⟩), rfl, rfl, none, rfl⟩
    · rintro G' le i vi N m hi hvi ⟨rfl, hpast, u, rfl⟩
      obtain ⟨c, tc, hci, rfl⟩ := IntsAre.getV hgi hvi
      have rd' : ∀ {P N : Led} {a : Addr} {p : OP}, Has H a p → Rd G' P N a p := fun h => .inr (.inr ((h.keeps hG).keeps le))
      refine W_assignName (W_store ?_)
      refine W_cons (W_If (W_isTrueCall (W_CallMeth (W_local rfl (W_getMeth (cls_CodeSet w) (rd' hx) (rd' hd) rfl rfl rfl (W_callWithF rfl (W_argsCons (W_local rfl (W_argsNil ?_)))))))))
      refine W_call0E ((cs_has_spec hH hs hl).le (by decide)) (fun g' S b o e => S _ _ (le _ _ (hG _ _ e))) fun v F g' h' e => ?_
      subst e
      have hmem : c ∈ group := List.mem_of_getElem? hci
      refine W_truthyBool ⟨fun h1 => ?_, fun h1 => W_nil (W_nil ⟨fun _ h => h, rfl, ?_, _, rfl⟩)⟩
      · refine W_cons (W_Return (W_boolC fun h S => ⟨_, S, Ends.nil, ?_⟩))
        have : group.any (hasS bounds) = true := List.any_eq_true.mpr ⟨c, hmem, h1⟩
        rw [this]
      · rw [List.take_add_one, hci, List.any_append, hpast]
        simp [h1]
    · rintro N m ⟨rfl, hpast, u, rfl⟩
      rw [hgi.length, List.take_length] at hpast
      exact ⟨hpast, rfl⟩
  · rintro P N m ⟨hno, rfl⟩
    exact W_cons (W_Return (W_boolC fun h S => ⟨[], S.subP (fun _ h => (nomatch h)), Ends.nil, by rw [hno]⟩))
end Nt
end
section
open PySem PySem.W PyProof.Rows PySem.Calls
set_option maxRecDepth 100000
set_option autoImplicit false
set_option linter.unusedVariables false
namespace Nt
structure TE where
  k : List Int
  ka : Addr
  la : Addr
  cs : List Int
noncomputable def teX (es : List TE) : TX := es.map fun e => (e.k, e.ka, .ref e.la)
noncomputable def tdLed (w : World) (da : Addr) (es : List TE) : Led := (da, hdk w (teX es)) :: es.map fun e => (e.la, lstI e.cs)
noncomputable abbrev FD := List (List Int × List Int)
noncomputable def fg (es : List TE) : FD := es.map fun e => (e.k, e.cs)
noncomputable def Frozen (H : Heap) (es : List TE) : Prop := ∀ e ∈ es, Has H e.ka (tupI e.k)
noncomputable def addTo (D : FD) (g : List Int) (c : Int) : FD := if g ∈ D.map (·.1) then D.map (fun x => if x.1 = g then (x.1, x.2 ++ [c]) else x) else D ++ [(g, [c])]
theorem teX_keys (es : List TE) : (teX es).map (·.1) = es.map (·.k) := by unfold teX; rw [List.map_map]; rfl
theorem fg_keys (es : List TE) : (fg es).map (·.1) = es.map (·.k) := by unfold fg; rw [List.map_map]; rfl
theorem addTo_hit {A B : List TE} {k : List Int} {ka la : Addr} {cs : List Int} {c : Int} (nd : ((A ++ ⟨k, ka, la, cs⟩ :: B).map (·.k)).Nodup) : fg (A ++ ⟨k, ka, la, cs ++ [c]⟩ :: B) = addTo (fg (A ++ ⟨k, ka, la, cs⟩ :: B)) k c := by
  have hm : k ∈ (fg (A ++ ⟨k, ka, la, cs⟩ :: B)).map (·.1) := by rw [fg_keys]; simp
  unfold addTo
  rw [if_pos hm]
  rw [List.map_append, List.map_cons] at nd
  have nd' := List.nodup_append.mp nd
  have hB := (List.nodup_cons.mp nd'.2.1).1
  have hA : k ∉ A.map (·.k) := fun h => nd'.2.2 k h k (List.mem_cons_self ..) rfl
  have idm : ∀ l : List TE, k ∉ l.map (·.k) → (l.map fun e => (e.k, e.cs)).map (fun x : List Int × List Int => if x.1 = k then (x.1, x.2 ++ [c]) else x) = l.map fun e => (e.k, e.cs) := by
    intro l hl
    rw [List.map_map]
    refine List.map_congr_left fun e he => ?_
    have : ¬ e.k = k := fun q => hl (List.mem_map.mpr ⟨e, he, q⟩)
    simp [this]
  unfold fg
  rw [List.map_append, List.map_append, List.map_append, List.map_cons, List.map_cons, List.map_cons, idm A hA, idm B hB]
  simp
theorem addTo_miss {es : List TE} {k : List Int} {ka la : Addr} {c : Int} (h : k ∉ es.map (·.k)) : fg (es ++ ⟨k, ka, la, [] ++ [c]⟩ :: []) = addTo (fg es) k c := by
  unfold addTo
  rw [if_neg (by rw [fg_keys]; exact h)]
  unfold fg
  rw [List.map_append]; rfl
section
variable {w : World} {G : Heap} {L : Addr} {d : Nat} {P N : Led} {m : Vars} {env : Env} {Q : Value → Led → Led → Vars → Prop}
/-- d.setdefault(k, []) -/
theorem W_setdefTD {H : Heap} {da ka new : Addr} {es : List TE} {k : List Int} {X Y : Led} (hH : Le H G) (hfr : Frozen H es) (hka : Has H ka (tupI k)) (hn : (da == sysModules) = false) (hsz : es.length ≤ 1000)
    (q : ∀ (A B : List TE) (kaE l : Addr) (cs : List Int), Frozen H (A ++ ⟨k, kaE, l, cs⟩ :: B) → (∀ c, fg (A ++ ⟨k, kaE, l, cs ++ [c]⟩ :: B) = addTo (fg es) k c) → (∀ n, (∀ e ∈ es, e.cs.length ≤ n) → cs.length ≤ n) → Q (.ref l) P (X ++ (tdLed w da (A ++ ⟨k, kaE, l, cs⟩ :: B) ++ Y)) m) :
    W w G L d (call (.builtin "dict.setdefault") ([.ref da] ++ [.ref ka, .ref new])) P ((new, lst []) :: (X ++ (tdLed w da es ++ Y))) m Q := by
  refine W.fact (F := (es.map (·.k)).Nodup) (fun h S => ?_) fun nd => ?_
  · obtain ⟨o, ho, _, es', ep, _, _, hn⟩ := (S.nw (da, hdk w (teX es)) (.tail _ (List.mem_append_right _ (List.mem_append_left _ (.head _))))).1
    rw [teX_keys] at hn
    exact hn
  refine W.post (W_setdefT (xs := teX es) (k := k) (N' := (new, lst []) :: (X ++ ((da, hdk w (teX es ++ [(k, ka, .ref new)])) :: (es.map (fun e => (e.la, lstI e.cs)) ++ Y)))) ?_ hn (fun y hy => ?_) (.inr (.inr (hka.keeps hH))) (by unfold teX; simp; omega) (fun p hp => ?_) fun hno => ?_)
  · exact .tail (Upd.app .head X)
  · unfold teX at hy
    obtain ⟨e, he, rfl⟩ := List.mem_map.mp hy
    exact .inr (.inr ((hfr e he).keeps hH))
  · -- there already
    obtain ⟨e, he, hek, hpe⟩ : ∃ e ∈ es, e.k = k ∧ p.2 = .ref e.la := by
      unfold atKey teX at hp
      rw [List.find?_map] at hp
      cases hq : es.find? ((fun x : List Int × Addr × Value => decide (x.1 = k)) ∘ fun e => (e.k, e.ka, Value.ref e.la)) with
      | none => rw [hq] at hp; cases hp
      | some e =>
        rw [hq] at hp
        have h1 := List.find?_some hq
        have h2 := List.mem_of_find?_eq_some hq
        cases hp
        exact ⟨e, h2, by simpa using h1, rfl⟩
    obtain ⟨A, B, hAB⟩ := List.append_of_mem he
    obtain ⟨ek, eka, ela, ecs⟩ := e
    dsimp only at hek hpe
    subst hek
    rw [hpe]
    refine fun h S => ⟨_, _, _, S.dropN, ?_⟩
    have q' := q A B eka ela ecs (hAB ▸ hfr) (fun c => by rw [hAB]; exact addTo_hit (hAB ▸ nd)) (fun n hn => hn ⟨ek, eka, ela, ecs⟩ he)
    rw [← hAB] at q'
    exact q'
  · have hk : k ∉ es.map (·.k) := by
      intro hm
      obtain ⟨e, he, hek⟩ := List.mem_map.mp hm
      unfold atKey teX at hno
      rw [Option.map_eq_none_iff, List.find?_eq_none] at hno
      exact hno _ (List.mem_map_of_mem he) (by simpa using hek)
    refine fun h S => ⟨_, _, _, (S.nimp (p' := lstI []) fun o y => lstI_nil y).perm ?_, q es [] ka new [] (fun e he => ?_) (fun c => addTo_miss hk) fun n _ => Nat.zero_le _⟩
    · -- move the new list behind the others
      unfold tdLed teX
      rw [List.map_append, List.map_append]
      refine (List.perm_middle (a := (new, lstI [])) (l₁ := X) (l₂ := _)).symm.trans (.append_left X ?_)
      refine (List.Perm.swap _ _ _).trans (.cons _ ?_)
      show ((new, lstI []) :: (es.map (fun e => (e.la, lstI e.cs)) ++ Y)).Perm ((es.map (fun e => (e.la, lstI e.cs)) ++ [(new, lstI [])]) ++ Y)
      rw [List.append_assoc]
      exact List.perm_middle.symm
    · rcases List.mem_append.mp he with he | he
      · exact hfr e he
      · rw [List.mem_singleton.mp he]; exact hka
end
end Nt
end
section
open PySem PySem.W PyProof.Rows PySem.Calls
set_option maxRecDepth 100000
set_option autoImplicit false
set_option linter.unusedVariables false
namespace Nt
theorem Upd.appR {a : Addr} {p p' : OP} {N N' Y : Led} (u : Upd a p p' N N') : Upd a p p' (N ++ Y) (N' ++ Y) := by
  induction u with
  | head => exact .head
  | tail _ ih => exact .tail ih
noncomputable def tdMid (w : World) (da : Addr) (A : List TE) (k : List Int) (ka l : Addr) (B : List TE) (p : OP) : Led := (da, hdk w (teX (A ++ ⟨k, ka, l, []⟩ :: B))) :: (A.map (fun e => (e.la, lstI e.cs)) ++ (l, p) :: B.map (fun e => (e.la, lstI e.cs)))
theorem tdLed_mid {w : World} {da : Addr} {A : List TE} {k : List Int} {ka l : Addr} {B : List TE} {cs : List Int} : tdLed w da (A ++ ⟨k, ka, l, cs⟩ :: B) = tdMid w da A k ka l B (lstI cs) := by
  unfold tdLed tdMid teX
  rw [List.map_append, List.map_append, List.map_append]; rfl
theorem tdMid_upd {w : World} {da : Addr} {A : List TE} {k : List Int} {ka l : Addr} {B : List TE} {p p' : OP} : Upd l p p' (tdMid w da A k ka l B p) (tdMid w da A k ka l B p') := .tail (Upd.app .head _)
noncomputable abbrev fiA (dd sm fl d1 d2 : Addr) : Vars := [("data", some (.ref dd)), ("simple", some (.ref sm)), ("full", some (.ref fl)), ("to_one", some (.ref d1)), ("to_many", some (.ref d2))]
structure FiFix (G : Heap) (x dx dd sm fl d1 d2 : Addr) (turk : Bool) : Prop where
  hx : Has G x (ins 340 dx)
  hd : Has G dx (att 900 (fiA dd sm fl d1 d2))
  hs : Has G sm (tupS (stsOf false turk))
  hf : Has G fl (tupS (stsOf true turk))
  n1 : (d1 == sysModules) = false
  n2 : (d2 == sysModules) = false
theorem FiFix.keeps {G G' : Heap} {x dx dd sm fl d1 d2 : Addr} {turk : Bool} (k : Le G G') (D : FiFix G x dx dd sm fl d1 d2 turk) : FiFix G' x dx dd sm fl d1 d2 turk := ⟨D.hx.keeps k, D.hd.keeps k, D.hs.keeps k, D.hf.keeps k, D.n1, D.n2⟩
noncomputable def putOne (D : FD) (g : List Int) (c : Int) : FD := if g = [c] then D else addTo D g c
noncomputable def putMany (D : FD) (g : List Int) (c : Int) : FD := if g.length = 1 then D else addTo D g c
inductive I19_1 (w : World) (d1 : Addr) (d2 : Addr) (turk : Bool) (c : Int) (f : Int → Option Row) (H : Heap) (es1 : List TE) (es2 : List TE) (N' : Led) : Prop
  | mk (es1' : List TE) (es2' : List TE) (hh1 : N' = tdLed w d1 es1' ++ tdLed w d2 es2') (hh2 : Frozen H es1') (hh3 : Frozen H es2') (hh4 : fg es1' = putOne (fg es1) (foldS f (stsOf false turk) c) c) (hh5 : fg es2' = putMany (fg es2) (foldS f (stsOf true turk) c) c)
inductive I19_2 (w : World) (x : Addr) (d1 : Addr) (d2 : Addr) (c : Int) (tc : Tok) (H : Heap) (es1 : List TE) (es2 : List TE) (g1 : List Int) (N : Led) (m : Vars) : Prop
  | mk (es1' : List TE) (u : Option Value) (hh1 : N = tdLed w d1 es1' ++ tdLed w d2 es2) (hh2 : Frozen H es1') (hh3 : fg es1' = putOne (fg es1) g1 c) (hh4 : m = ([("self", some (.ref x)), ("code", some (.int c tc)), ("goal", u)] : Vars))
theorem fi_put_spec {w : World} {x dx dd sm fl d1 d2 : Addr} {turk : Bool} {c : Int} {tc : Tok} {f : Int → Option Row} {H : Heap} {es1 es2 : List TE} (hH : DataAt w H dd f) (hsh : Short f) (hc : 0 ≤ c) (h1 : Frozen H es1) (h2 : Frozen H es2) (hz1 : es1.length ≤ 900) (hz2 : es2.length ≤ 900) (hl1 : ∀ e ∈ es1, e.cs.length ≤ 900) (hl2 : ∀ e ∈ es2, e.cs.length ≤ 900)
    : Fn w 9 (.ref 302) [.ref x, .int c tc] (tdLed w d1 es1 ++ tdLed w d2 es2) (fun G => Le H G ∧ FiFix G x dx dd sm fl d1 d2 turk)
      (fun _ _ N' _ => (I19_1 w d1 d2 turk c f H es1 es2 N')) := by
  refine Fn.of_body (names := ["self", "code", "goal"]) (m₀ := [("self", some (.ref x)), ("code", some (.int c tc)), ("goal", none)]) rfl rfl (fun _ _ => .of_eq rfl) rfl rfl rfl ?_
  intro G L B ⟨hG, D⟩
  refine W.letE ?_
  intro en0 Qf0
  have rx : ∀ {P N : Led}, Rd G P N x (ins 340 dx) := .inr (.inr D.hx)
  have rd : ∀ {P N : Led}, Rd G P N dx (att 900 (fiA dd sm fl d1 d2)) := .inr (.inr D.hd)
  -- the simple goal
  refine W_cons (W_AssignName (W_CallName (W_global (v := .ref 234) rfl (W_callWithF rfl (W_argsCons (W_local rfl (W_argsCons (W_Attr (W_local rfl (W_getAttr (cls_FoldIndex w) rx rd rfl ?_ rfl rfl))))))))))
  refine W_argsCons (W_Attr (W_local rfl (W_getAttr (cls_FoldIndex w) rx rd rfl (W_argsNil ?_) rfl rfl)))
  refine W_call0 ((fold_of_spec2 hH hc).le (by decide)) (fun g' S => ⟨fun b o e => S.keep _ _ (hG _ _ e), D.hs.keeps S.keep⟩) fun v F g' h' S1 k S2 ⟨q, e, hq, hqf⟩ => ?_
  subst e
  refine ⟨_, _, _, S2.pinNew S1 hG hq, W_store ?_⟩
  generalize hg1 : foldS f (stsOf false turk) c = g1 at hq hqf
  refine W_cut (fun P N m => (I19_2 w x d1 d2 c tc H es1 es2 g1 N m)) ?_ ?_
  · refine W_If (W_isTrueCompare (W_local rfl (W_Tuple (W_argsCons (W_local rfl (W_argsNil (W_newTuple (by rw [sizeLine_eq]; simp) fun t1 ht1 => ?_)))))))
    refine W.st (P' := [(t1, tupI [c]), (q, tupI g1)]) ?_ fun h S => S.pimp fun o y => ⟨_, .cons _ _ .nil, y⟩
    refine W_neTT (.inr (.inl (.tail _ (.head _)))) (.inr (.inl (.head _))) (W_truthyBool ⟨fun hne => ?_, fun hne => W_nil ⟨es1, _, rfl, h1, ?_, rfl⟩⟩)
    · have hne : g1 ≠ [c] := by simpa using hne
      refine W_cons (W_Expr (W_CallMeth (W_CallMeth (W_Attr (W_local rfl (W_getAttr (cls_FoldIndex w) rx rd rfl ?_ rfl rfl))))))
      refine W_mT PySem.F.slot_dict_setdefault (.inl (.head _)) (W_callWithB (W_argsCons (W_local rfl (W_argsCons (W_List (W_argsNil (W_newList (by rw [sizeLine_eq]; simp) fun nw => W_argsNil ?_)))))))
      refine W_setdefTD (X := []) (Y := tdLed w d2 es2) hG h1 (hqf hne) D.n1 (by omega) fun A B kaE l cs hfr hfg hcl => ?_
      have hcs : cs.length ≤ 900 := hcl _ hl1
      rw [tdLed_mid]
      refine W.opnI (N' := fun vs => [] ++ (tdMid w d1 A g1 kaE l B (lst vs) ++ tdLed w d2 es2)) (Upd.app (Upd.appR (tdMid_upd (p' := lst []))) []).mem (fun vs => Upd.app (Upd.appR tdMid_upd) []) fun vs hvs => ?_
      have hvl := hvs.length
      refine W_mL PySem.F.slot_list_append (.inl (Upd.app (Upd.appR (tdMid_upd (p' := lst []))) []).mem) (W_callWithB (W_argsCons (W_local rfl (W_argsNil (W_append (N' := [] ++ (tdMid w d1 A g1 kaE l B (lst (vs ++ [.int c tc])) ++ tdLed w d2 es2)) (Upd.app (Upd.appR tdMid_upd) []) (by rw [sizeLine_eq]; omega) ?_)))))
      refine W.cls (N' := [] ++ (tdMid w d1 A g1 kaE l B (lstI (cs ++ [c])) ++ tdLed w d2 es2)) (Upd.app (Upd.appR tdMid_upd) []) (fun o y => ⟨_, hvs.append (.cons _ _ .nil), y⟩) ?_
      rw [← tdLed_mid]
      refine W_nil ⟨_, _, rfl, ?_, ?_, rfl⟩
      · intro e he
        rcases List.mem_append.mp he with he | he
        · exact hfr e (List.mem_append_left _ he)
        · rcases List.mem_cons.mp he with rfl | he
          · exact hfr ⟨g1, kaE, l, cs⟩ (List.mem_append_right _ (.head _))
          · exact hfr e (List.mem_append_right _ (.tail _ he))
      · unfold putOne; rw [if_neg hne]; exact hfg c
    · have hne : g1 = [c] := by simpa using hne
      unfold putOne; rw [if_pos hne]
  · rintro P N m ⟨es1', u, rfl, hfr1, hfg1, rfl⟩
    -- the full goal
    refine W_cons (W_AssignName (W_CallName (W_global (v := .ref 234) rfl (W_callWithF rfl (W_argsCons (W_local rfl (W_argsCons (W_Attr (W_local rfl (W_getAttr (cls_FoldIndex w) rx rd rfl ?_ rfl rfl))))))))))
    refine W_argsCons (W_Attr (W_local rfl (W_getAttr (cls_FoldIndex w) rx rd rfl (W_argsNil ?_) rfl rfl)))
    refine W_call0 ((fold_of_spec2 hH hc).le (by decide)) (fun g' S => ⟨fun b o e => S.keep _ _ (hG _ _ e), D.hf.keeps S.keep⟩) fun v F g' h' S1 k S2 ⟨q, e, hq, hqf⟩ => ?_
    subst e
    generalize hg2 : foldS f (stsOf true turk) c = g2 at hq hqf
    have hlen2 : g2.length ≤ 3 := by rw [← hg2]; exact hsh.len _ _
    obtain ⟨oq, hoq, qvs, hqi, hqt⟩ := id hq.1
    have hql := hqi.length
    have hq' : New H g' h' q (tup qvs) := ⟨⟨_, hoq, hqt⟩, hq.2⟩
    refine ⟨_, _, _, (S2.subP (P' := []) (fun _ h => (nomatch h))).pinNew (S1.subP (P' := []) (fun _ h => (nomatch h))) hG hq', W_store ?_⟩
    refine W_cut (fun P N m => ∃ es2', N = tdLed w d1 es1' ++ tdLed w d2 es2' ∧ Frozen H es2' ∧ fg es2' = putMany (fg es2) g2 c) ?_ ?_
    · refine W_If (W_isTrueCompare (W_CallName (W_builtin rfl rfl (W_callWithB (W_argsCons (W_local rfl (W_argsNil ?_)))))))
      refine W_lenT (.inr (.inl (.head _))) (by omega) fun t1 => W_int fun t2 => W_neI (W_truthyBool ⟨fun hne => ?_, fun hne => W_nil ⟨es2, rfl, h2, ?_⟩⟩)
      · have hne : ¬ g2.length = 1 := by
          rw [← hql]
          intro e
          rw [e] at hne
          exact absurd hne (by decide)
        have hne2 : g2 ≠ [c] := fun e => hne (by rw [e]; rfl)
        refine W_cons (W_Expr (W_CallMeth (W_CallMeth (W_Attr (W_local rfl (W_getAttr (cls_FoldIndex w) rx rd rfl ?_ rfl rfl))))))
        refine W_mT PySem.F.slot_dict_setdefault (.inl (List.mem_append_right _ (.head _))) (W_callWithB (W_argsCons (W_local rfl (W_argsCons (W_List (W_argsNil (W_newList (by rw [sizeLine_eq]; simp) fun nw => W_argsNil ?_)))))))
        refine W.st (N' := (nw, lst []) :: (tdLed w d1 es1' ++ (tdLed w d2 es2 ++ []))) ?_ fun h S => by rw [List.append_nil]; exact S
        refine W_setdefTD (X := tdLed w d1 es1') (Y := []) hG h2 (hqf hne2) D.n2 (by omega) fun A B kaE l cs hfr hfg hcl => ?_
        have hcs : cs.length ≤ 900 := hcl _ hl2
        rw [tdLed_mid]
        refine W.opnI (N' := fun vs => tdLed w d1 es1' ++ (tdMid w d2 A g2 kaE l B (lst vs) ++ [])) (Upd.app (Upd.appR (tdMid_upd (p' := lst []))) _).mem (fun vs => Upd.app (Upd.appR tdMid_upd) _) fun vs hvs => ?_
        have hvl := hvs.length
        refine W_mL PySem.F.slot_list_append (.inl (Upd.app (Upd.appR (tdMid_upd (p' := lst []))) _).mem) (W_callWithB (W_argsCons (W_local rfl (W_argsNil (W_append (N' := tdLed w d1 es1' ++ (tdMid w d2 A g2 kaE l B (lst (vs ++ [.int c tc])) ++ [])) (Upd.app (Upd.appR tdMid_upd) _) (by rw [sizeLine_eq]; omega) ?_)))))
        refine W.cls (N' := tdLed w d1 es1' ++ (tdMid w d2 A g2 kaE l B (lstI (cs ++ [c])) ++ [])) (Upd.app (Upd.appR tdMid_upd) _) (fun o y => ⟨_, hvs.append (.cons _ _ .nil), y⟩) ?_
        rw [← tdLed_mid]
        refine W_nil ⟨A ++ ⟨g2, kaE, l, cs ++ [c]⟩ :: B, by rw [List.append_nil], ?_, ?_⟩
        · intro e he
          rcases List.mem_append.mp he with he | he
          · exact hfr e (List.mem_append_left _ he)
          · rcases List.mem_cons.mp he with rfl | he
            · exact hfr ⟨g2, kaE, l, cs⟩ (List.mem_append_right _ (.head _))
            · exact hfr e (List.mem_append_right _ (.tail _ he))
        · unfold putMany; rw [if_neg hne]; exact hfg c
      · have hne : g2.length = 1 := by
          have hne' : (qvs.length : Int) = 1 := by simpa using hne
          omega
        unfold putMany; rw [if_pos hne]
    · rintro P N m ⟨es2', rfl, hfr2, hfg2⟩
      exact W_nil fun h S => ⟨_, S.subP (fun _ h => (nomatch h)), Ends.nil, es1', es2', rfl, hfr1, hfr2, by rw [hg1]; exact hfg1, by rw [hg2]; exact hfg2⟩
end Nt
end
section
open PySem PySem.W PyProof.Rows PySem.Calls
set_option maxRecDepth 100000
set_option autoImplicit false
set_option linter.unusedVariables false
namespace Nt
section
variable {w : World} {G : Heap} {L : Addr} {d : Nat} {P N : Led} {m : Vars} {env : Env} {Q : Value → Led → Led → Vars → Prop}
theorem St.newAt {h h' : Heap} {a : Addr} {p : OP} (S : St w G L P N m h) (ha : h.objs.size ≤ a) (k : ∀ b o, h.get? b = some o → h'.get? b = some o) (hp : Has h' a p) : St w G L P ((a, p) :: N) m h' :=
  S.new (by
    cases q : h.get? a with
    | none => rfl
    | some o => exact absurd (Heap.lt_size q) (Nat.not_lt.mpr ha)) k hp
theorem W_sortedI {l : Addr} {ns : List Int} (hl : Rd G P N l (lstI ns)) (h64 : ns.length < 64) (q : ∀ r ns', ns'.Perm ns → ns'.Pairwise (· ≤ ·) → Q (.ref r) P ((r, lstI ns') :: N) m) : W w G L d (call (.builtin "sorted") [.ref l]) P N m Q := W.mk fun A s R S => by
  obtain ⟨o, ho, vs, hi, hv⟩ := S.rd hl
  have hlen := hi.length
  refine sorted_ints (Has.isList ⟨o, ho, hv⟩) hi (by omega) fun out ns' a1 a2 a3 => ?_
  obtain ⟨e, he⟩ := sortedAll_at s.heap vs out
  refine Done.here (tk := s.toks) (S.newAt (a := s.heap.objs.size + 1) (p := lstI ns') (Nat.le_succ _) (fun _ _ => sortedAll_old) ⟨_, he, out.toList, a1, e, ?_⟩) (q _ ns' a2 a3)
  unfold seqObj lobj
  rw [Array.toArray_toList]
/-- list(l): a copy -/
theorem W_listL {l : Addr} {ns : List Int} (hl : Rd G P N l (lstI ns)) (hsz : ns.length ≤ 10000) (q : ∀ r, Q (.ref r) P ((r, lstI ns) :: N) m) : W w G L d (call (.type "list") [.ref l]) P N m Q := W.mk fun A s R S => by
  obtain ⟨o, ho, vs, hi, n, rfl⟩ := S.rd hl
  have hlen := hi.length
  refine call_list_seq (items := vs.toArray) (n := n) (hsz := by rw [sizeLine_eq, List.size_toArray]; omega) l (.inl rfl) ho rfl rfl fun h' c' hk hD => ?_
  exact Done.here (tk := s.toks) (S.newAt (p := lstI ns) (Nat.le_refl _) hk ⟨_, hD, vs, hi, c', rfl⟩) (q _)
noncomputable def upI (a : Int) (n : Nat) : List Int := (List.range n).map fun (i : Nat) => a + i
theorem intsAre_up {a : Int} : ∀ {vs : List Value} {k : Nat}, (∀ j v, vs[j]? = some v → ∃ t : Tok, v = Value.int (a + ((k + j : Nat) : Int)) t) → IntsAre vs ((List.range vs.length).map fun (i : Nat) => a + ((k + i : Nat) : Int))
  | [], _, _ => .nil
  | v :: r, k, h => by
    obtain ⟨t, rfl⟩ := h 0 v rfl
    have ih := intsAre_up (a := a) (vs := r) (k := k + 1) fun j u hu => by
      have := h (j + 1) u (by simpa using hu)
      rwa [show k + (j + 1) = k + 1 + j by omega] at this
    have e : (List.range (r.length + 1)).map (fun (i : Nat) => a + ((k + i : Nat) : Int)) = (a + ((k + 0 : Nat) : Int)) :: (List.range r.length).map fun (i : Nat) => a + ((k + 1 + i : Nat) : Int) := by
      rw [List.range_succ_eq_map, List.map_cons, List.map_map]
      congr 1
      exact List.map_congr_left fun i _ => by show a + ((k + (i + 1) : Nat) : Int) = _; rw [show k + (i + 1) = k + 1 + i by omega]
    rw [List.length_cons, e]
    exact .cons _ _ ih
/-- list(range(a, b)) -/
theorem W_listRange {r : Addr} {a b : Int} (hl : Rd G P N r (rng a b 1)) (ha : -(2 ^ 62) ≤ a) (ha' : a < 2 ^ 62) (hb : -(2 ^ 62) ≤ b) (hb' : b < 2 ^ 62) (hsz : (b - a).toNat ≤ 10000) (q : ∀ r, Q (.ref r) P ((r, lstI (upI a (b - a).toNat)) :: N) m) : W w G L d (call (.type "list") [.ref r]) P N m Q := W.mk fun A s R S => by
  obtain ⟨o, ho, t, u, v, rfl⟩ := S.rd hl
  refine call_list_range R.handled ho (small_one ha ha' hb hb') (rangeSize_nat a b) (by omega) fun h' tk acc' c' hk hD hit => ?_
  refine Done.here (tk := tk) (S.newAt (p := lstI (upI a (b - a).toNat)) (Nat.le_refl _) hk ⟨_, hD, acc'.toList, ?_, c', by unfold lobj; rw [Array.toArray_toList]⟩) (q _)
  have hl : acc'.toList.length = (b - a).toNat := by rw [Array.length_toList]; exact hit.1
  have := intsAre_up (a := a) (vs := acc'.toList) (k := 0) fun j v hv => by
    obtain ⟨t, e⟩ := hit.2 j v (by rw [← Array.getElem?_toList]; exact hv)
    exact ⟨t, by rw [e]; congr 1⟩
  rw [hl] at this
  simpa [upI] using this
end
end Nt
end
section
open PySem PySem.W PyProof.Rows PySem.Calls
set_option maxRecDepth 100000
set_option autoImplicit false
set_option linter.unusedVariables false
namespace Nt
/-- an index dict, frozen -/
noncomputable def TdAt (w : World) (H : Heap) (da : Addr) (D : FD) : Prop := ∃ es : List TE, fg es = D ∧ Has H da (hdk w (teX es)) ∧ ∀ e ∈ es, Has H e.ka (tupI e.k) ∧ Has H e.la (lstI e.cs)
theorem atKey_cons {x : List Int × Addr × Value} {xs : TX} {k : List Int} : atKey (x :: xs) k = if x.1 = k then some x.2 else atKey xs k := by
  unfold atKey
  rw [List.find?_cons]
  by_cases h : x.1 = k
  · rw [if_pos h, decide_eq_true h]; rfl
  · rw [if_neg h, decide_eq_false h]
theorem td_at (es : List TE) (k : List Int) : match (fg es).lookup k with
    | none => atKey (teX es) k = none
    | some cs => ∃ e ∈ es, e.cs = cs ∧ atKey (teX es) k = some (e.ka, .ref e.la) := by
  induction es with
  | nil => rfl
  | cons e r ih =>
    show match ((e.k, e.cs) :: fg r).lookup k with
      | none => atKey ((e.k, e.ka, .ref e.la) :: teX r) k = none
      | some cs => ∃ e' ∈ e :: r, e'.cs = cs ∧ atKey ((e.k, e.ka, .ref e.la) :: teX r) k = some (e'.ka, .ref e'.la)
    rw [List.lookup_cons, atKey_cons]
    by_cases h : e.k = k
    · have h' : (k == e.k) = true := by rw [h]; exact beq_self_eq_true _
      rw [h', if_pos h]
      exact ⟨e, .head _, rfl, rfl⟩
    · have h' : (k == e.k) = false := beq_eq_false_iff_ne.mpr fun q => h q.symm
      rw [h', if_neg h]
      cases q : (fg r).lookup k with
      | none => rw [q] at ih; exact ih
      | some cs => rw [q] at ih; obtain ⟨e', he', x, y⟩ := ih; exact ⟨e', .tail _ he', x, y⟩
inductive I20_1 (w : World) (H : Heap) (x : Addr) (turk : Bool) (f : Int → Option Row) (D1 : FD) (D2 : FD) : Prop
  | mk (dx : Addr) (dd : Addr) (sm : Addr) (fl : Addr) (d1 : Addr) (d2 : Addr) (hh1 : FiFix H x dx dd sm fl d1 d2 turk) (hh2 : DataAt w H dd f) (hh3 : TdAt w H d1 D1) (hh4 : TdAt w H d2 D2)
structure FiAt (w : World) (H : Heap) (x : Addr) (turk : Bool) (f : Int → Option Row) (D1 D2 : FD) : Prop where
  fix : (I20_1 w H x turk f D1 D2)
noncomputable def alike0 (f : Int → Option Row) (turk : Bool) (D1 : FD) (c : Int) : List Int :=
  let ss := stsOf false turk
  let g := foldS f ss c
  let f0 := (D1.lookup g).getD []
  let g0 := g.headD 0
  let f1 := if foldS f ss g0 = g ∧ g0 ∉ f0 then f0 ++ [g0] else f0
  if c ∈ f1 then f1 else f1 ++ [c]
theorem any_eq_mem (ns : List Int) (k : Int) : ns.any (· == k) = decide (k ∈ ns) := by
  induction ns with
  | nil => rfl
  | cons a r ih =>
    rw [List.any_cons, ih]
    by_cases h : a = k
    · subst h; simp
    · have : ¬ k = a := fun e => h e.symm
      simp [h, this]
inductive I20_3 (g : List Int) : Prop
  | mk (g0 : Int) (gr : List Int) (hh1 : g = g0 :: gr)
theorem fi_alike_spec {w : World} {x : Addr} {turk : Bool} {c : Int} {tc : Tok} {f : Int → Option Row} {D1 D2 : FD} {H : Heap} (hH : FiAt w H x turk f D1 D2) (hsh : Short f) (hne : ∀ ss c, foldS f ss c ≠ []) (hc : 0 ≤ c) (hD : ∀ k cs, D1.lookup k = some cs → cs.length ≤ 20) :
    Fn w 9 (.ref 309) [.ref x, .int c tc] [] (fun G => Le H G) (fun _ v N' _ => X2 fun r ns => A4 (v = .ref r) (ns.Perm (alike0 f turk D1 c)) (ns.Pairwise (· ≤ ·)) (N' = [(r, lstI ns)])) := by
  refine Fn.of_body (names := ["self", "code", "goal", "found"]) (m₀ := [("self", some (.ref x)), ("code", some (.int c tc)), ("goal", none), ("found", none)]) rfl rfl (fun _ _ => .of_eq rfl) rfl rfl rfl ?_
  intro G L B hG
  obtain ⟨dx, dd, sm, fl, d1, d2, D, hDa, ⟨es, hes, hd1, hee⟩, _⟩ := hH
  have rd : ∀ {P N : Led} {a : Addr} {p : OP}, Has H a p → Rd G P N a p := fun h => .inr (.inr (h.keeps hG))
  -- goal
  refine W_cons (W_AssignName (W_CallName (W_global (v := .ref 234) rfl (W_callWithF rfl (W_argsCons (W_local rfl (W_argsCons (W_Attr (W_local rfl (W_getAttr (cls_FoldIndex w) (rd D.hx) (rd D.hd) rfl ?_ rfl rfl))))))))))
  refine W_argsCons (W_Attr (W_local rfl (W_getAttr (cls_FoldIndex w) (rd D.hx) (rd D.hd) rfl (W_argsNil ?_) rfl rfl)))
  refine W_call0 ((fold_of_spec hDa hc).le (by decide)) (fun g' S => ⟨fun b o e => S.keep _ _ (hG _ _ e), (D.hs.keeps hG).keeps S.keep⟩) fun v F g' h' S1 k S2 ⟨q, e, hq⟩ => ?_
  subst e
  generalize hg : foldS f (stsOf false turk) c = g at hq
  have hgl : g.length ≤ 3 := by rw [← hg]; exact hsh.len _ _
  have hgne : g ≠ [] := by rw [← hg]; exact hne _ _
  have hgpos : ∀ z ∈ g, 0 ≤ z := by rw [← hg]; exact hsh.pos _ _ hc
  obtain ⟨g0, gr, rfl⟩ : (I20_3 g) := by cases g with | nil => exact absurd rfl hgne | cons a b => exact ⟨a, b, rfl⟩
  have hg0 : 0 ≤ g0 := hgpos g0 (.head _)
  obtain ⟨oq, hoq, qvs, hqi, hqt⟩ := id hq.1
  have hq' : New H g' h' q (tup qvs) := ⟨⟨_, hoq, hqt⟩, hq.2⟩
  obtain ⟨tg0, hqv⟩ := hqi.get 0 g0 rfl
  have S3 := (S2.pinNew S1 hG hq')
  have S4 := S3.pin hq.1 (S3.ps _ (.head _)).2.1 (S3.ps _ (.head _)).2.2
  refine ⟨_, _, _, S4, W_store ?_⟩
  have rq : ∀ {N : Led} {P : Led}, Rd G ((q, tupI (g0 :: gr)) :: (q, tup qvs) :: P) N q (tupI (g0 :: gr)) := .inr (.inl (.head _))
  have rq2 : ∀ {N : Led} {P : Led}, Rd G ((q, tupI (g0 :: gr)) :: (q, tup qvs) :: P) N q (tup qvs) := .inr (.inl (.tail _ (.head _)))
  -- found
  refine W_cut (fun P N m => E2_3 (fun (r : Addr) (N0 : Led) => P = [(q, tupI (g0 :: gr)), (q, tup qvs)]) (fun (r : Addr) (N0 : Led) => N = (r, lstI ((D1.lookup (g0 :: gr)).getD [])) :: N0) (fun (r : Addr) (N0 : Led) => m = ([("self", some (.ref x)), ("code", some (.int c tc)), ("goal", some (.ref q)), ("found", some (.ref r))] : Vars))) ?_ ?_
  · refine W_AssignName (W_CallName (W_builtin rfl rfl (W_callWithT (W_argsCons (W_CallMeth (W_Attr (W_local rfl (W_getAttr (cls_FoldIndex w) (rd D.hx) (rd D.hd) rfl ?_ rfl rfl))))))))
    refine W_mT PySem.F.slot_dict_get (rd hd1) (W_callWithB (W_argsCons (W_local rfl (W_argsCons (W_List (W_argsNil (W_newList (by rw [sizeLine_eq]; simp) fun nw => W_argsNil ?_)))))))
    refine W_getT2 (rd hd1) D.n1 (fun y hy => ?_) rq ?_
    · unfold teX at hy
      obtain ⟨e, he, rfl⟩ := List.mem_map.mp hy
      exact rd (hee e he).1
    have hat := td_at es (g0 :: gr)
    rw [hes] at hat
    cases hlk : D1.lookup (g0 :: gr) with
    | none =>
      rw [hlk] at hat
      dsimp only at hat
      rw [hat]
      refine W.clsI .head .nil ?_
      refine W_argsNil (W_listL (.inl (.head _)) (by simp) fun r => W_store ⟨r, _, rfl, rfl, rfl⟩)
    | some cs =>
      rw [hlk] at hat
      obtain ⟨e, he, rfl, hae⟩ := hat
      rw [hae]
      have := hD _ _ hlk
      refine W_argsNil (W_listL (rd (hee e he).2) (by omega) fun r => W_store ⟨r, _, rfl, rfl, rfl⟩)
  · rintro P N m ⟨r, N0, rfl, rfl, rfl⟩
    generalize hf0 : (D1.lookup (g0 :: gr)).getD [] = f0
    have hf0l : f0.length ≤ 20 := by
      rw [← hf0]
      cases hlk : D1.lookup (g0 :: gr) with
      | none => simp
      | some cs => exact hD _ _ hlk
    have hsi : ∀ n : Nat, n = (g0 :: gr).length → seqIndex? 0 n = some 0 := by rintro n rfl; unfold seqIndex?; simp
    have item : ∀ {e1 e2 : Expr} {u : Tok} {P1 N1 : Led} {m1 : Vars} {Q : Value → Led → Led → Vars → Prop}, (q, tup qvs) ∈ P1 → Q (.int g0 tg0) P1 N1 m1 → (subscripted e2 false (.ref q) (.int 0 u) = operate [.ref q, .int 0 u] (getItem (.ref q) (.int 0 u))) → W w G L 8 (subscriptTail e1 e2 (.ref q) (.int 0 u)) P1 N1 m1 Q :=
      fun hp hq hs => W_itemT (.inr (.inl hp)) (by decide) (by decide) (hsi _ hqi.length) hqv hq hs
    refine W_cut (fun P N m => E2_2 (fun (r : Addr) (N0 : Led) => N = (r, lstI (if foldS f (stsOf false turk) g0 = g0 :: gr ∧ g0 ∉ f0 then f0 ++ [g0] else f0)) :: N0) (fun (r : Addr) (N0 : Led) => m = ([("self", some (.ref x)), ("code", some (.int c tc)), ("goal", some (.ref q)), ("found", some (.ref r))] : Vars))) ?_ ?_
    · refine W_If (W_isTrueAnd (W_andCons (W_isTrueCompare (W_CallName (W_global (v := .ref 234) rfl (W_callWithF rfl (W_argsCons (W_Subscript (W_local rfl (W_int fun t1 => item (.tail _ (.head _)) ?_ (by with_unfolding_all rfl)))))))))))
      refine W_argsCons (W_Attr (W_local rfl (W_getAttr (cls_FoldIndex w) (rd D.hx) (rd D.hd) rfl ?_ rfl rfl)))
      refine W_argsCons (W_Attr (W_local rfl (W_getAttr (cls_FoldIndex w) (rd D.hx) (rd D.hd) rfl (W_argsNil ?_) rfl rfl)))
      refine W_call0 ((fold_of_spec hDa hg0).le (by decide)) (fun g' S => ⟨fun b o e => S.keep _ _ (hG _ _ e), (D.hs.keeps hG).keeps S.keep⟩) fun v F g' h' S1 k S2 ⟨q2, e, hq2⟩ => ?_
      subst e
      refine ⟨_, _, _, S2.pinNew S1 hG hq2, ?_⟩
      refine W_local rfl (W_eqTT (.inr (.inl (.head _))) (.inr (.inl (.tail _ (.head _)))) (W_truthyBool ⟨fun h1 => ?_, fun h1 => ?_⟩))
      · have h1 := of_decide_eq_true h1
        refine W_andCons (W_isTrueCompare (W_Subscript (W_local rfl (W_int fun t2 => item (.tail _ (.tail _ (.head _))) ?_ (by with_unfolding_all rfl)))))
        refine W_local rfl (W_notInL (.inl (.head _)) (W_truthyBool ⟨fun h2 => W_andNil ⟨fun _ => ?_, fun e => (nomatch e)⟩, fun h2 => ⟨fun e => (nomatch e), fun _ => W_nil ⟨r, N0, ?_, rfl⟩⟩⟩))
        · rw [any_eq_mem] at h2
          have h2 : g0 ∉ f0 := by simpa using h2
          rw [if_pos ⟨h1, h2⟩]
          refine W.opnI (.head _) (fun vs => .head) fun vs hvs => ?_
          have hvl := hvs.length
          refine W_cons (W_Expr (W_CallMeth (W_local rfl (W_mL PySem.F.slot_list_append (.inl (.head _)) (W_callWithB (W_argsCons (W_Subscript (W_local rfl (W_int fun t3 => item (.tail _ (.tail _ (.head _))) ?_ (by with_unfolding_all rfl))))))))))
          refine W_argsNil (W_append .head (by rw [sizeLine_eq]; omega) ?_)
          exact W.clsI .head (hvs.append (.cons _ _ .nil)) (W_nil ⟨r, _, rfl, rfl⟩)
        · rw [any_eq_mem] at h2
          have h2 : g0 ∈ f0 := by simpa using h2
          rw [if_neg fun z => z.2 h2]
      · have h1 := of_decide_eq_false h1
        refine ⟨fun e => (nomatch e), fun _ => W_nil ⟨r, N0, ?_, rfl⟩⟩
        rw [if_neg fun z => h1 z.1]
    · rintro P N m ⟨r, N0, rfl, rfl⟩
      have ha0 : alike0 f turk D1 c = if c ∈ (if foldS f (stsOf false turk) g0 = g0 :: gr ∧ g0 ∉ f0 then f0 ++ [g0] else f0) then (if foldS f (stsOf false turk) g0 = g0 :: gr ∧ g0 ∉ f0 then f0 ++ [g0] else f0) else (if foldS f (stsOf false turk) g0 = g0 :: gr ∧ g0 ∉ f0 then f0 ++ [g0] else f0) ++ [c] := by
        unfold alike0
        dsimp only
        rw [hg, hf0]
        rfl
      rw [ha0]
      have hf1l : (if foldS f (stsOf false turk) g0 = g0 :: gr ∧ g0 ∉ f0 then f0 ++ [g0] else f0).length ≤ 21 := by split <;> (try simp) <;> omega
      generalize (if foldS f (stsOf false turk) g0 = g0 :: gr ∧ g0 ∉ f0 then f0 ++ [g0] else f0) = f1 at hf1l
      refine W_cut (fun P N m => E2_2 (fun (r : Addr) (N0 : Led) => N = (r, lstI (if c ∈ f1 then f1 else f1 ++ [c])) :: N0) (fun (r : Addr) (N0 : Led) => m = ([("self", some (.ref x)), ("code", some (.int c tc)), ("goal", some (.ref q)), ("found", some (.ref r))] : Vars))) ?_ ?_
      · refine W_If (W_isTrueCompare (W_local rfl (W_local rfl (W_notInL (.inl (.head _)) (W_truthyBool ⟨fun h2 => ?_, fun h2 => W_nil ⟨r, N0, ?_, rfl⟩⟩)))))
        · rw [any_eq_mem] at h2
          have h2 : c ∉ f1 := by simpa using h2
          rw [if_neg h2]
          refine W.opnI (.head _) (fun vs => .head) fun vs hvs => ?_
          have hvl := hvs.length
          refine W_cons (W_Expr (W_CallMeth (W_local rfl (W_mL PySem.F.slot_list_append (.inl (.head _)) (W_callWithB (W_argsCons (W_local rfl (W_argsNil (W_append .head (by rw [sizeLine_eq]; omega) ?_)))))))))
          exact W.clsI .head (hvs.append (.cons _ _ .nil)) (W_nil ⟨r, _, rfl, rfl⟩)
        · rw [any_eq_mem] at h2
          have h2 : c ∈ f1 := by simpa using h2
          rw [if_pos h2]
      · rintro P N m ⟨r, N0, rfl, rfl⟩
        have hf2l : (if c ∈ f1 then f1 else f1 ++ [c]).length < 64 := by split <;> (try simp) <;> omega
        refine W_cons (W_Return (W_CallName (W_builtin rfl rfl (W_callWithB (W_argsCons (W_local rfl (W_argsNil (W_sortedI (.inl (.head _)) hf2l fun r2 ns hp hs => ?_))))))))
        exact fun h S => ⟨[(r2, lstI ns)], (S.subP (P' := []) (fun _ h => (nomatch h))).subN (.cons_cons _ (List.nil_sublist _)), Ends.nil, r2, ns, rfl, hp, hs, rfl⟩
end Nt
end
section
open PySem PySem.W PyProof.Rows PySem.Calls
set_option maxRecDepth 100000
set_option autoImplicit false
set_option linter.unusedVariables false
namespace Nt
section
variable {w : World} {G : Heap} {L : Addr} {d : Nat} {P N : Led} {m : Vars} {env : Env} {Q : Value → Led → Led → Vars → Prop} {QU : Unit → Led → Led → Vars → Prop}
theorem W_assignPair {elts : List Expr} {k : Nat} {pos : Pos} {t : Addr} {a b : Int} (ht : Rd G P N t (tupI [a, b])) (x : ∀ ta tb, W w G L d (assignInOrder ((assignEach elts env).map (·.2)) [.int a ta, .int b tb]) P N m QU)
    (hn : (assignEach elts env).length = 2 := by rfl) (hstar : (assignEach elts env).findIdx? (·.1) = none := by rfl) : W w G L d (assign (.Tuple elts k pos) env (.ref t)) P N m QU := W.mk fun A s R S => by
  obtain ⟨o, ho, vs, hi, hv⟩ := S.rd ht
  obtain ⟨ta, tb, rfl⟩ : X2 fun ta tb => vs = [.int a ta, .int b tb] := by
    cases hi with
    | cons _ ta h =>
      cases h with
      | cons _ tb h =>
        cases h
        exact ⟨ta, tb, rfl⟩
  exact wpAny_assign_Tuple R.handled (Has.isTup (vs := [.int a ta, .int b tb]) ⟨o, ho, hv⟩) (by rw [hn]; rfl) hstar fun h' he => W.at (tk := s.toks) (x ta tb) R (S.grow (keep_ext he))
end
end Nt
end
section
open PySem PySem.W PyProof.Rows PySem.Calls
set_option maxRecDepth 100000
set_option autoImplicit false
set_option linter.unusedVariables false
namespace Nt
inductive I21_1 (goal : List Int) (D2 : FD) (v : Value) (N' : Led) : Prop
  | mk (r : Addr) (ns : List Int) (hh1 : v = .ref r) (hh2 : ns.Perm ((D2.lookup goal).getD [])) (hh3 : ns.Pairwise (· ≤ ·)) (hh4 : N' = [(r, lstI ns)])
theorem fi_unfolded_spec {w : World} {x gx : Addr} {turk : Bool} {goal : List Int} {f : Int → Option Row} {D1 D2 : FD} {H : Heap} (hH : FiAt w H x turk f D1 D2) (hD : ∀ k cs, D2.lookup k = some cs → cs.length ≤ 20) :
    Fn w 9 (.ref 316) [.ref x, .ref gx] [] (fun G => Le H G ∧ Has G gx (tupI goal)) (fun _ v N' _ => (I21_1 goal D2 v N')) := by
  refine Fn.of_body (names := ["self", "goal"]) (m₀ := [("self", some (.ref x)), ("goal", some (.ref gx))]) rfl rfl (fun _ _ => .of_eq rfl) rfl rfl rfl ?_
  intro G L B ⟨hG, og, hog, gvs, hgi, hgt⟩
  refine W.letE ?_
  intro en0 Qf0
  obtain ⟨dx, dd, sm, fl, d1, d2, D, hDa, _, es, hes, hd2, hee⟩ := hH
  have rd : ∀ {P N : Led} {a : Addr} {p : OP}, Has H a p → Rd G P N a p := fun h => .inr (.inr (h.keeps hG))
  refine W_cons (W_Return (W_CallName (W_builtin rfl rfl (W_callWithB (W_argsCons (W_CallMeth (W_Attr (W_local rfl (W_getAttr (cls_FoldIndex w) (rd D.hx) (rd D.hd) rfl ?_ rfl rfl)))))))))
  refine W_mT PySem.F.slot_dict_get (rd hd2) (W_callWithB (W_argsCons (W_CallName (W_builtin rfl rfl (W_callWithT (W_argsCons (W_local rfl (W_argsNil (W_tupleT (.inr (.inr ⟨_, hog, hgt⟩)) ?_)))))))))
  refine W_argsCons (W_List (W_argsNil (W_newList (by rw [sizeLine_eq]; simp) fun nw => W_argsNil ?_)))
  refine W_getT2 (rd hd2) D.n2 (fun y hy => ?_) (.inr (.inr ⟨_, hog, gvs, hgi, hgt⟩)) ?_
  · unfold teX at hy
    obtain ⟨e, he, rfl⟩ := List.mem_map.mp hy
    exact rd (hee e he).1
  have hat := td_at es goal
  rw [hes] at hat
  cases hlk : D2.lookup goal with
  | none =>
    rw [hlk] at hat
    dsimp only at hat
    rw [hat]
    refine W.clsI .head .nil ?_
    refine W_argsNil (W_sortedI (.inl (.head _)) (by simp) fun r2 ns hp hs => ?_)
    exact fun h S => ⟨[(r2, lstI ns)], (S.subP (P' := []) (fun _ h => (nomatch h))).subN (.cons_cons _ (List.nil_sublist _)), Ends.nil, r2, ns, rfl, by rw [hlk]; exact hp, hs, rfl⟩
  | some cs =>
    rw [hlk] at hat
    obtain ⟨e, he, rfl, hae⟩ := hat
    rw [hae]
    have := hD _ _ hlk
    refine W_argsNil (W_sortedI (rd (hee e he).2) (by omega) fun r2 ns hp hs => ?_)
    exact fun h S => ⟨[(r2, lstI ns)], (S.subP (P' := []) (fun _ h => (nomatch h))).subN (.cons_cons _ (List.nil_sublist _)), Ends.nil, r2, ns, rfl, by rw [hlk]; exact hp, hs, rfl⟩
structure Tame (bn : List (Int × Int)) : Prop where
  len : bn.length ≤ 100
  run : ∀ p ∈ bn, 0 ≤ p.1 ∧ p.1 ≤ 1000000 ∧ p.1 ≤ p.2 ∧ p.2 ≤ p.1 + 100
noncomputable def codesOf (bn : List (Int × Int)) : List Int := bn.flatMap fun p => upI p.1 (p.2 - p.1).toNat
theorem codesOf_len {bn : List (Int × Int)} (h : ∀ p ∈ bn, p.2 ≤ p.1 + 100) : (codesOf bn).length ≤ 100 * bn.length := by
  induction bn with
  | nil => simp [codesOf]
  | cons p r ih =>
    have i := ih fun q hq => h q (.tail _ hq)
    have j := h p (.head _)
    unfold codesOf at *
    rw [List.flatMap_cons, List.length_append, List.length_cons]
    have : (upI p.1 (p.2 - p.1).toNat).length = (p.2 - p.1).toNat := by unfold upI; simp
    omega
inductive I21_2 (x : Addr) (bn : List (Int × Int)) (r : Addr) (N : Led) (m : Vars) : Prop
  | mk (N0 : Led) (a : Option Value) (b : Option Value) (hh1 : N = N0 ++ [(r, lstI (codesOf bn))]) (hh2 : m = ([("code_set", some (.ref x)), ("found", some (.ref r)), ("first", a), ("last", b)] : Vars))
inductive I21_3 (x : Addr) (bn : List (Int × Int)) (r : Addr) (T : List (Addr × OP)) (i : Nat) (N : Led) (m : Vars) : Prop
  | mk (a : Option Value) (b : Option Value) (hh1 : N = T ++ [(r, lstI (codesOf (bn.take i)))]) (hh2 : m = ([("code_set", some (.ref x)), ("found", some (.ref r)), ("first", a), ("last", b)] : Vars))
theorem range_codes_spec {w : World} {x : Addr} {bn : List (Int × Int)} {H : Heap} (hH : CsAt H x (flat bn)) (ht : Tame bn) :
    Fn w 7 (.ref 166) [.ref x] [] (fun G => Le H G) (fun _ v N' _ => ∃ r, v = .ref r ∧ N' = [(r, lstI (codesOf bn))]) := by
  refine Fn.of_body (names := ["code_set", "found", "first", "last"]) (m₀ := [("code_set", some (.ref x)), ("found", none), ("first", none), ("last", none)]) rfl rfl (fun _ _ => .of_eq rfl) rfl rfl rfl ?_
  intro G L B hG
  refine W.letE ?_
  intro en0 Qf0
  obtain ⟨dx, b, hx, hd, hb⟩ := id hH
  have hlen := ht.len
  have rd : ∀ {P N : Led} {a : Addr} {p : OP}, Has H a p → Rd G P N a p := fun h => .inr (.inr (h.keeps hG))
  refine W_cons (W_AssignName (W_List (W_argsNil (W_newList (by rw [sizeLine_eq]; simp) fun r => W_store ?_))))
  refine W.clsI .head .nil ?_
  refine W_cut (fun P N m => (I21_2 x bn r N m)) ?_ ?_
  · refine W_ForG (W.post (W_CallMeth (W_local rfl (W_getMeth (cls_CodeSet w) (rd hx) (rd hd) rfl rfl rfl (W_callWithF0 rfl ?_)))))
    refine W_callE (N0 := []) ((cs_ranges_spec hH (by omega)).le (by decide)) (fun g S b o e => S _ _ (hG _ _ e)) fun v N' g h' ⟨q, ys, T, e, e2, hpl⟩ => ?_
    subst e e2
    have hyl : ys.length = bn.length := (All2.length hpl).trans (by unfold runs; simp)
    refine fun h S => ⟨_, _, _, S.freeze, ys.length, _, fun i N m => (I21_3 x bn r T i N m), .list (.inl (.head _)), ⟨none, none, rfl, rfl⟩, ?_, ?_⟩
    · rintro G' le i v N m hi hv ⟨a, b, rfl, rfl⟩
      obtain ⟨⟨p1, p2⟩, hrun, t, rfl, hm⟩ := All2.getL hpl i v hv
      have hbi : bn[i]? = some (p1, p2 + 1) := by
        unfold runs at hrun
        rw [List.getElem?_map] at hrun
        cases hq : bn[i]? with
        | none => rw [hq] at hrun; cases hrun
        | some z => rw [hq] at hrun; obtain ⟨z1, z2⟩ := z; simp at hrun; obtain ⟨rfl, rfl⟩ := hrun; congr 1; ext <;> simp
      have hz := ht.run _ (List.mem_of_getElem? hbi)
      dsimp only at hz
      refine W_assignPair (.inl (List.mem_append_left _ hm)) fun ta tb => W_ordCons (W_assignName (W_store (W_ordCons (W_assignName (W_store (W_ordNil (ts := []) ?_))))))
      have hcl := codesOf_len (bn := bn.take i) fun p hp => (ht.run p (List.mem_of_mem_take hp)).2.2.2
      have htk : (bn.take i).length ≤ 100 := by rw [List.length_take]; omega
      refine W.opnI (List.mem_append_right _ (.head _)) (fun vs => Upd.app .head T) fun vs hvs => ?_
      have hvl := hvs.length
      refine W_cons (W_Expr (W_CallMeth (W_local rfl (W_mL PySem.F.slot_list_extend (.inl (List.mem_append_right _ (.head _))) (W_callWithB (W_argsCons (W_CallName (W_builtin rfl rfl (W_callWithT (W_argsCons (W_CallName (W_builtin rfl rfl (W_callWithT (W_argsCons (W_local rfl (W_argsCons (W_BinOp (W_local rfl (W_int fun t1 => W_add fun t2 => W_argsNil (W_range2 fun rr hrr => ?_))))))))))))))))))))
      refine W_argsNil (W_listRange (.inr (.inl (.head _))) (by omega) (by omega) (by omega) (by omega) (by omega) fun l2 => ?_)
      refine W.opnI (.head _) (fun vs => .head) fun us hus => W_argsNil ?_
      have hul : us.length = (upI p1 (p2 + 1 - p1).toNat).length := hus.length
      have hue : (upI p1 (p2 + 1 - p1).toNat).length = (p2 + 1 - p1).toNat := by unfold upI; simp
      refine W_extendL (.tail (Upd.app .head T)) (.inl (.head _)) (by omega) ?_
      refine W.st (fun h S => S.dropN) (x := W.clsI (Upd.app .head T) (hvs.append hus) (W_nil ⟨fun p hp => .tail _ hp, _, _, ?_, rfl⟩))
      have e : codesOf (bn.take (i + 1)) = codesOf (bn.take i) ++ upI p1 (p2 + 1 - p1).toNat := by
        unfold codesOf
        rw [List.take_add_one, hbi, List.flatMap_append]
        simp
      rw [e]
    · rintro N m ⟨a, b, rfl, rfl⟩
      rw [hyl, List.take_length]
      exact ⟨T, a, b, rfl, rfl⟩
  · rintro P N m ⟨N0, a, b, rfl, rfl⟩
    exact W_cons (W_Return (W_local rfl fun h S => ⟨[(r, lstI (codesOf bn))], (S.subP (P' := []) (fun _ h => (nomatch h))).subN (List.sublist_append_right ..), Ends.nil, r, rfl, rfl⟩))
end Nt
end
section
open PySem PySem.W PyProof.Rows PySem.Calls
set_option maxRecDepth 100000
set_option autoImplicit false
set_option linter.unusedVariables false
namespace Nt
inductive I22_1 (w : World) (h : Heap) (x : Addr) (rm : Addr) (starts : List Int) (vals : List (Option Row)) : Prop
  | mk (dx : Addr) (df : Value) (mp : Addr) (pr : Value) (wo : Value) (hh1 : Has h x (ins 411 dx)) (hh2 : Has h dx (att 900 (daA df mp pr wo))) (hh3 : (mp == sysModules) = false) (hh4 : Has h mp (dk (strKind prg w) [(("cf" : Str), .ref rm)])) (hh5 : RmAt w h rm starts vals)
/-- a Data object whose one map is rm -/
noncomputable def DataRm (w : World) (h : Heap) (x rm : Addr) (starts : List Int) (vals : List (Option Row)) : Prop :=
  (I22_1 w h x rm starts vals)
theorem DataRm.keeps {w : World} {h h' : Heap} (k : Le h h') {x rm : Addr} {starts : List Int} {vals : List (Option Row)} (d : DataRm w h x rm starts vals) : DataRm w h' x rm starts vals :=
  let ⟨dx, df, mp, pr, wo, a, b, c, d, e⟩ := d; ⟨dx, df, mp, pr, wo, a.keeps k, b.keeps k, c, d.keeps k, e.keeps k⟩
theorem DataRm.at {w : World} {h : Heap} {x rm : Addr} {starts : List Int} {vals : List (Option Row)} {f : Int → Option Row} (d : DataRm w h x rm starts vals) (g : Good starts vals f) : DataAt w h x f :=
  let ⟨dx, df, mp, pr, wo, a, b, c, d, e⟩ := d; ⟨dx, df, mp, pr, wo, rm, starts, vals, (), a, b, c, d, e, g, rfl⟩
theorem map_of_at {w : World} {x rm : Addr} {ts : Tok} {starts : List Int} {vals : List (Option Row)} {H : Heap} (hH : DataRm w H x rm starts vals) : Fn w 9 (.ref 408) [.ref x, .str "cf" ts] [] (fun G => Le H G) (fun _ v N' _ => v = .ref rm) := by
  refine Fn.of_body (names := ["self", "name"]) (m₀ := [("self", some (.ref x)), ("name", some (.str "cf" ts))]) rfl rfl (fun _ _ => .of_eq rfl) rfl rfl rfl ?_
  intro G L B hG
  refine W.letE ?_
  intro en0 Qf0
  obtain ⟨dx, df, mp, pr, wo, hx, hd, hn, hm, hr⟩ := hH
  have rd : ∀ {P N : Led} {a : Addr} {p : OP}, Has H a p → Rd G P N a p := fun h => .inr (.inr (h.keeps hG))
  refine W_cons (W_If (W_isTrueCompare (W_local rfl (W_Attr (W_local rfl (W_getAttr (cls_Data w) (rd hx) (rd hd) rfl ?_ rfl rfl))))))
  refine W_notInD (isS w _ _) (rd hm) hn (W_truthyBool ⟨fun e => (nomatch e), fun _ => W_nil ?_⟩)
  refine W_cons (W_Return (W_Subscript (W_Attr (W_local rfl (W_getAttr (cls_Data w) (rd hx) (rd hd) rfl ?_ rfl rfl)))))
  refine W_local rfl (W_itemD (isS w _ _) (rd hm) cf_value ?_)
  exact fun h S => ⟨_, S, Ends.nil, rfl⟩
noncomputable def ixOne (f : Int → Option Row) (turk : Bool) (ks : List Int) : FD := ks.foldl (fun D c => putOne D (foldS f (stsOf false turk) c) c) []
noncomputable def ixMany (f : Int → Option Row) (turk : Bool) (ks : List Int) : FD := ks.foldl (fun D c => putMany D (foldS f (stsOf true turk) c) c) []
noncomputable def FDB (n : Nat) (D : FD) : Prop := D.length ≤ n ∧ ∀ x ∈ D, x.2.length ≤ n
theorem FDB.add {n : Nat} {D : FD} (h : FDB n D) (g : List Int) (c : Int) : FDB (n + 1) (addTo D g c) := by
  unfold addTo
  split
  · refine ⟨by rw [List.length_map]; have := h.1; omega, fun x hx => ?_⟩
    obtain ⟨y, hy, rfl⟩ := List.mem_map.mp hx
    have := h.2 y hy
    split
    · simp; omega
    · omega
  · refine ⟨by rw [List.length_append]; have := h.1; simp; omega, fun x hx => ?_⟩
    rcases List.mem_append.mp hx with hx | hx
    · have := h.2 x hx; omega
    · rw [List.mem_singleton.mp hx]; simp
theorem FDB.up {n : Nat} {D : FD} (h : FDB n D) : FDB (n + 1) D := ⟨by have := h.1; omega, fun x hx => by have := h.2 x hx; omega⟩
theorem ix_bound {g : FD → Int → FD} (hg : ∀ n D c, FDB n D → FDB (n + 1) (g D c)) : ∀ (ks : List Int) (n : Nat) (D : FD), FDB n D → FDB (n + ks.length) (ks.foldl g D)
  | [], n, D, h => h
  | c :: r, n, D, h => by
    have := ix_bound hg r (n + 1) _ (hg n D c h)
    rw [List.length_cons, show n + (r.length + 1) = n + 1 + r.length by omega]
    exact this
theorem ixOne_bound (f : Int → Option Row) (turk : Bool) (ks : List Int) : FDB ks.length (ixOne f turk ks) := by
  have := ix_bound (g := fun D c => putOne D (foldS f (stsOf false turk) c) c) (fun n D c h => by unfold putOne; split; exact h.up; exact h.add _ _) ks 0 [] ⟨by simp, fun _ h => nomatch h⟩
  rw [Nat.zero_add] at this; exact this
theorem ixMany_bound (f : Int → Option Row) (turk : Bool) (ks : List Int) : FDB ks.length (ixMany f turk ks) := by
  have := ix_bound (g := fun D c => putMany D (foldS f (stsOf true turk) c) c) (fun n D c h => by unfold putMany; split; exact h.up; exact h.add _ _) ks 0 [] ⟨by simp, fun _ h => nomatch h⟩
  rw [Nat.zero_add] at this; exact this
theorem fg_len (es : List TE) : (fg es).length = es.length := by unfold fg; simp
theorem fg_mem {es : List TE} {e : TE} (h : e ∈ es) : (e.k, e.cs) ∈ fg es := List.mem_map_of_mem h
inductive I22_2 (w : World) (dx : Addr) (dd : Addr) (turk : Bool) (f : Int → Option Row) (ks : List Int) (H : Heap) (G : Heap) (N' : Led) (h' : Heap) : Prop
  | mk (sm : Addr) (fl : Addr) (d1 : Addr) (d2 : Addr) (es1 : List TE) (es2 : List TE) (hh1 : N' = tdLed w d1 es1 ++ (tdLed w d2 es2 ++ [(dx, att 5 (fiA dd sm fl d1 d2))])) (hh2 : (d1 == sysModules) = false) (hh3 : (d2 == sysModules) = false) (hh4 : Frozen H es1) (hh5 : Frozen H es2) (hh6 : fg es1 = ixOne f turk ks) (hh7 : fg es2 = ixMany f turk ks) (hh8 : (Has h' sm (tupS (stsOf false turk)) ∧ G.get? sm = none ∧ sm ∉ N'.map (·.1))) (hh9 : (Has h' fl (tupS (stsOf true turk)) ∧ G.get? fl = none ∧ fl ∉ N'.map (·.1)))
inductive I22_3 (w : World) (dx : Addr) (dd : Addr) (turk : Bool) (f : Int → Option Row) (ks : List Int) (H : Heap) (sm : Addr) (fl : Addr) (d1 : Addr) (d2 : Addr) (N : Led) : Prop
  | mk (T : Led) (es1 : List TE) (es2 : List TE) (hh1 : N = T ++ (tdLed w d1 es1 ++ (tdLed w d2 es2 ++ [(dx, att 5 (fiA dd sm fl d1 d2))]))) (hh2 : Frozen H es1) (hh3 : Frozen H es2) (hh4 : fg es1 = ixOne f turk ks) (hh5 : fg es2 = ixMany f turk ks)
inductive I22_4 (w : World) (x : Addr) (dx : Addr) (dd : Addr) (turk : Bool) (f : Int → Option Row) (ks : List Int) (H : Heap) (sm : Addr) (fl : Addr) (d1 : Addr) (d2 : Addr) (T : List (Addr × OP)) (i : Nat) (N : Led) (m : Vars) : Prop
  | mk (es1 : List TE) (es2 : List TE) (a : Option Value) (b : Option Value) (c : Option Value) (e : Option Value) (hh1 : N = T ++ (tdLed w d1 es1 ++ (tdLed w d2 es2 ++ [(dx, att 5 (fiA dd sm fl d1 d2))]))) (hh2 : Frozen H es1) (hh3 : Frozen H es2) (hh4 : fg es1 = ixOne f turk (ks.take i)) (hh5 : fg es2 = ixMany f turk (ks.take i)) (hh6 : m = ([("self", some (.ref x)), ("data", some (.ref dd)), ("is_turkic", some (.bool turk)), ("first", a), ("last", b), ("known", c), ("code", e)] : Vars))
inductive I22_5 (w : World) (x : Addr) (dx : Addr) (dd : Addr) (turk : Bool) (f : Int → Option Row) (ks : List Int) (H : Heap) (sm : Addr) (fl : Addr) (d1 : Addr) (d2 : Addr) (T : List (Addr × OP)) (i : Nat) (N : Led) (m : Vars) : Prop
  | mk (es1 : List TE) (es2 : List TE) (a : Option Value) (b : Option Value) (c : Option Value) (e : Option Value) (hh1 : N = T ++ (tdLed w d1 es1 ++ (tdLed w d2 es2 ++ [(dx, att 5 (fiA dd sm fl d1 d2))]))) (hh2 : Frozen H es1) (hh3 : Frozen H es2) (hh4 : fg es1 = ixOne f turk (ks.take (i + 1))) (hh5 : fg es2 = ixMany f turk (ks.take (i + 1))) (hh6 : m = ([("self", some (.ref x)), ("data", some (.ref dd)), ("is_turkic", some (.bool turk)), ("first", a), ("last", b), ("known", c), ("code", e)] : Vars))
inductive I22_6 (w : World) (x : Addr) (dx : Addr) (dd : Addr) (turk : Bool) (f : Int → Option Row) (ks : List Int) (H : Heap) (sm : Addr) (fl : Addr) (d1 : Addr) (d2 : Addr) (T : List (Addr × OP)) (i : Nat) (j : Nat) (N : Led) (m : Vars) : Prop
  | mk (es1 : List TE) (es2 : List TE) (a : Option Value) (b : Option Value) (c : Option Value) (e : Option Value) (hh1 : N = T ++ (tdLed w d1 es1 ++ (tdLed w d2 es2 ++ [(dx, att 5 (fiA dd sm fl d1 d2))]))) (hh2 : Frozen H es1) (hh3 : Frozen H es2) (hh4 : fg es1 = ixOne f turk (ks.take (i + j))) (hh5 : fg es2 = ixMany f turk (ks.take (i + j))) (hh6 : m = ([("self", some (.ref x)), ("data", some (.ref dd)), ("is_turkic", some (.bool turk)), ("first", a), ("last", b), ("known", c), ("code", e)] : Vars))
theorem fi_init_spec {w : World} {x dx dd rm : Addr} {turk : Bool} {starts : List Int} {vals : List (Option Row)} {f : Int → Option Row} {ks : List Int} {H : Heap} (hH : DataRm w H dd rm starts vals) (hgood : Good starts vals f) (hsh : Short f) (hlen : starts.length = vals.length) (hsm : starts.length ≤ 900)
    (hks : setRows starts vals = ks.map fun c => (c, c, f c)) (hkl : ks.length ≤ 100) (hkp : ∀ c ∈ ks, 0 ≤ c ∧ c ≤ 1000000 ∧ (f c).isSome = true) :
    Fn w 12 (.ref 295) [.ref x, .ref dd, .bool turk] [(dx, att 0 [])] (fun G => Le H G ∧ Has G x (ins 340 dx)) (fun G v N' h' => v = .none ∧ (I22_2 w dx dd turk f ks H G N' h')) := by
  refine Fn.of_body (names := ["self", "data", "is_turkic", "first", "last", "known", "code"]) (m₀ := [("self", some (.ref x)), ("data", some (.ref dd)), ("is_turkic", some (.bool turk)), ("first", none), ("last", none), ("known", none), ("code", none)]) rfl rfl (fun _ X => binds_K X rfl rfl rfl rfl rfl) rfl rfl rfl ?_
  intro G L B ⟨hG, hx⟩
  refine W.letE ?_
  intro en0 Qf0
  have rx : ∀ {P N : Led}, Rd G P N x (ins 340 dx) := .inr (.inr hx)
  have hDA := hH.at hgood
  obtain ⟨ddx, df, mp, pr, wo, hdx, hdd, hn, hm, hr⟩ := id hH
  have rd : ∀ {P N : Led} {a : Addr} {p : OP}, Has H a p → Rd G P N a p := fun h => .inr (.inr (h.keeps hG))
  refine W_cons (W_AssignAttr (W_local rfl (W_local rfl (W_setAttr (cls_FoldIndex w) rx .head (by decide) rfl ?_))))
  refine W_cons (W_AssignAttr (W_CallName (W_global (v := .ref 241) rfl (W_callWithF rfl (W_argsCons (W_boolC (W_argsCons (W_local rfl (W_argsNil ?_)))))))))
  refine W_call0 (fold_statuses_spec.le (by decide)) (fun _ _ => trivial) fun v F g' h' S1 k S2 ⟨sm, e, hsm1, hst⟩ => ⟨_, _, _, S2.pin hst (S1.fresh hsm1).1 (S1.fresh hsm1).2.1, ?_⟩
  subst e
  have gsm : G.get? sm = none := (S1.fresh hsm1).2.2.2
  refine W_local rfl (W_setAttr (cls_FoldIndex w) rx .head (by decide) rfl ?_)
  refine W_cons (W_AssignAttr (W_CallName (W_global (v := .ref 241) rfl (W_callWithF rfl (W_argsCons (W_boolC (W_argsCons (W_local rfl (W_argsNil ?_)))))))))
  refine W_call0 (fold_statuses_spec.le (by decide)) (fun _ _ => trivial) fun v F2 g2 h2 S3 k2 S4 ⟨fl, e, hfl1, hst2⟩ => ⟨_, _, _, S4.pin hst2 (S3.fresh hfl1).1 (S3.fresh hfl1).2.1, ?_⟩
  subst e
  have gfl : G.get? fl = none := (S3.fresh hfl1).2.2.2
  refine W_local rfl (W_setAttr (cls_FoldIndex w) rx .head (by decide) rfl ?_)
  refine W_cons (W_AssignAttr (W_DictEmptyT fun d1 hd1 => W_local rfl (W_setAttr (cls_FoldIndex w) rx (.tail .head) (by decide) rfl ?_)))
  refine W_cons (W_AssignAttr (W_DictEmptyT fun d2 hd2 => W_local rfl (W_setAttr (cls_FoldIndex w) rx (.tail (.tail .head)) (by decide) rfl ?_)))
  refine W.st (N' := tdLed w d1 [] ++ (tdLed w d2 [] ++ [(dx, att 5 (fiA dd sm fl d1 d2))])) ?_ fun h S => S.perm (List.Perm.swap _ _ _)
  -- the loop over the rows
  refine W_cut (fun P N m => (∀ p ∈ [(fl, tupS (stsOf true turk)), (sm, tupS (stsOf false turk))], p ∈ P) ∧ (I22_3 w dx dd turk f ks H sm fl d1 d2 N)) ?_ ?_
  · refine W_ForG (W.post (W_CallMeth (W_CallMeth (W_local rfl (W_getMeth (cls_Data w) (rd hdx) (rd hdd) rfl rfl rfl (W_callWithF rfl (W_argsCons (W_str fun t1 => W_argsNil ?_))))))))
    refine W_call0E ((map_of_at hH).le (by decide)) (fun g S b o e => S _ _ (hG _ _ e)) fun v' F g h' e => ?_
    subst e
    obtain ⟨rdx, rsa, rva, rsvs, rvvs, hrx, hri⟩ := id hr
    refine W_getMeth (cls_RangeMap w) (rd hrx) (rd hri.hd) rfl rfl rfl (W_callWithF0 rfl ?_)
    refine W_callE (N0 := []) ((ranges_spec hr hlen hsm).le (by decide)) (fun g S b o e => S _ _ (hG _ _ e)) fun v N' g h' ⟨r, ys, T, e, e2, hrl⟩ => ?_
    subst e e2
    rw [hks] at hrl
    have hyl : ys.length = ks.length := (All2.length hrl).trans (by simp)
    refine fun h S => ⟨_, _, _, S.freeze, ys.length, _, fun i N m => (I22_4 w x dx dd turk f ks H sm fl d1 d2 T i N m), .list (.inl (.head _)), ⟨[], [], none, none, none, none, rfl, (fun _ h => nomatch h), (fun _ h => nomatch h), rfl, rfl, rfl⟩, ?_, ?_⟩
    · rintro G' le i v N m hi hv ⟨es1, es2, a, b, c, e, rfl, hfr1, hfr2, hfg1, hfg2, rfl⟩
      obtain ⟨ρ, hrun, t, ta, tb, u, rfl, hmT, hvo⟩ := All2.getL hrl i v hv
      obtain ⟨cc, hcc, hz⟩ : ∃ cc, ks[i]? = some cc ∧ ρ = (cc, cc, f cc) := by
        rw [List.getElem?_map] at hrun
        cases hq : ks[i]? with
        | none => rw [hq] at hrun; cases hrun
        | some z => rw [hq] at hrun; exact ⟨z, rfl, (Option.some.inj hrun).symm⟩
      subst hz
      obtain ⟨hc0, hc1, hcs⟩ := hkp cc (List.mem_of_getElem? hcc)
      dsimp only at hvo hmT
      obtain ⟨row, hrow⟩ := Option.isSome_iff_exists.mp hcs
      rw [hrow] at hvo
      obtain ⟨ua, ukv, rfl, _⟩ := hvo
      refine W_assignTup (.inl (List.mem_append_left _ hmT)) (W_ordCons (W_assignName (W_store (W_ordCons (W_assignName (W_store (W_ordCons (W_assignName (W_store (W_ordNil (ts := []) ?_))))))))))
      refine W_cons (W_If (W_isTrueCompare (W_local rfl (W_none (W_isNot rfl (W_truthyBool ⟨fun _ => ?_, fun e => (nomatch e)⟩))))))
      have htake : ks.take (i + 1) = ks.take i ++ [cc] := by rw [List.take_add_one, hcc]; rfl
      have hil : (ks.take i).length ≤ 100 := by rw [List.length_take]; omega
      have rd' : ∀ {P N : Led} {a : Addr} {p : OP}, Has H a p → Rd G' P N a p := fun h => .inr (.inr ((h.keeps hG).keeps le))
      refine W_cut (fun P N m => (∀ p ∈ [(r, lst ys), (fl, tupS (stsOf true turk)), (sm, tupS (stsOf false turk))], p ∈ P) ∧ (I22_5 w x dx dd turk f ks H sm fl d1 d2 T i N m)) ?_ ?_
      · refine W_ForG (W_CallName (W_builtin rfl rfl (W_callWithT (W_argsCons (W_local rfl (W_argsCons (W_BinOp (W_local rfl (W_int fun t2 => W_add fun t3 => W_argsNil (W_range2 fun rr hrr => ?_))))))))))
        try dsimp only
        refine ⟨_, _, fun j N m => (I22_6 w x dx dd turk f ks H sm fl d1 d2 T i j N m), Src.range1 (.inl (.head _)) (by omega) (by omega) (by omega) (by omega), ⟨es1, es2, _, _, _, _, rfl, hfr1, hfr2, hfg1, hfg2, rfl⟩, ?_, ?_⟩
        · rintro G2 le2 j v N m hj ⟨tv, rfl⟩ ⟨es1, es2, a, b, c, e, rfl, hfr1, hfr2, hfg1, hfg2, rfl⟩
          obtain rfl : j = 0 := by omega
          have hG2 : Le H G2 := fun b o e => le2 _ _ (le _ _ (hG _ _ e))
          have rx2 : ∀ {P N : Led}, Rd G2 P N x (ins 340 dx) := .inr (.inr ((hx.keeps le).keeps le2))
          have b1 := ixOne_bound f turk (ks.take i)
          have b2 := ixMany_bound f turk (ks.take i)
          rw [Nat.add_zero] at hfg1 hfg2
          have n1 : es1.length ≤ 900 := by have := fg_len es1; have := b1.1; rw [← hfg1] at this; omega
          have n2 : es2.length ≤ 900 := by have := fg_len es2; have := b2.1; rw [← hfg2] at this; omega
          have m1 : ∀ e ∈ es1, e.cs.length ≤ 900 := fun e he => by have := b1.2 (e.k, e.cs) (by rw [← hfg1]; exact fg_mem he); dsimp only at this; omega
          have m2 : ∀ e ∈ es2, e.cs.length ≤ 900 := fun e he => by have := b2.2 (e.k, e.cs) (by rw [← hfg2]; exact fg_mem he); dsimp only at this; omega
          have ec : cc + ((0 : Nat) : Int) = cc := by omega
          rw [ec]
          have mdx : (dx, att 5 (fiA dd sm fl d1 d2)) ∈ T ++ (tdLed w d1 es1 ++ (tdLed w d2 es2 ++ [(dx, att 5 (fiA dd sm fl d1 d2))])) := List.mem_append_right _ (List.mem_append_right _ (List.mem_append_right _ (.head _)))
          refine W_assignName (W_store (W_cons (W_Expr (W_CallMeth (W_local rfl (W_getMeth (cls_FoldIndex w) rx2 (.inl mdx) rfl rfl rfl (W_callWithF rfl (W_argsCons (W_local rfl (W_argsNil ?_))))))))))
          refine W_callP (N0 := tdLed w d1 es1 ++ tdLed w d2 es2) (R := T ++ [(dx, att 5 (fiA dd sm fl d1 d2))]) ((fi_put_spec (dx := dx) (sm := sm) (fl := fl) (turk := turk) hDA hsh hc0 hfr1 hfr2 n1 n2 m1 m2).le (by decide)) ?_ (fun g S => ⟨fun b o e => S.keep _ _ (hG2 _ _ e), ?_⟩) fun v' N' g h' S1 k S2 _ ⟨es1', es2', e, hfr1', hfr2', hg1, hg2⟩ => ?_
          · rw [List.append_assoc]
            exact (List.perm_append_comm_assoc ..).trans (.append_left _ (List.perm_append_comm_assoc ..))
          · refine ⟨((hx.keeps le).keeps le2).keeps S.keep, ?_, (S.ps _ (.tail _ (.tail _ (.tail _ (.head _))))).1, (S.ps _ (.tail _ (.tail _ (.head _)))).1, hd1, hd2⟩
            obtain ⟨o, ho, z⟩ := (S.nw (dx, att 5 (fiA dd sm fl d1 d2)) (List.mem_append_right _ (.head _))).1
            exact ⟨o, ho, att_le (by decide) z⟩
          · subst e
            refine ⟨_, _, _, S2.perm (N' := T ++ (tdLed w d1 es1' ++ (tdLed w d2 es2' ++ [(dx, att 5 (fiA dd sm fl d1 d2))]))) ?_, W_nil ⟨fun _ h => h, es1', es2', _, _, _, _, rfl, hfr1', hfr2', ?_, ?_, rfl⟩⟩
            · rw [List.append_assoc]
              exact ((List.perm_append_comm_assoc ..).trans (.append_left _ (List.perm_append_comm_assoc ..))).symm
            · rw [hg1, hfg1, Nat.zero_add, htake]
              unfold ixOne
              rw [List.foldl_append]; rfl
            · rw [hg2, hfg2, Nat.zero_add, htake]
              unfold ixMany
              rw [List.foldl_append]; rfl
        · rintro N m ⟨es1, es2, a, b, c, e, rfl, hfr1, hfr2, hfg1, hfg2, rfl⟩
          have e1 : (cc + 1 - cc).toNat = 1 := by omega
          rw [e1] at hfg1 hfg2
          exact ⟨fun p hp => .tail _ hp, es1, es2, a, b, c, e, rfl, hfr1, hfr2, hfg1, hfg2, rfl⟩
      · rintro P N m ⟨hP, es1, es2, a, b, c, e, rfl, hfr1, hfr2, hfg1, hfg2, rfl⟩
        exact W_nil (W_nil ⟨hP, es1, es2, a, b, c, e, rfl, hfr1, hfr2, hfg1, hfg2, rfl⟩)
    · rintro N m ⟨es1, es2, a, b, c, e, rfl, hfr1, hfr2, hfg1, hfg2, rfl⟩
      rw [hyl, List.take_length] at hfg1 hfg2
      exact ⟨fun p hp => .tail _ hp, T, es1, es2, rfl, hfr1, hfr2, hfg1, hfg2⟩
  · rintro P N m ⟨hP, T, es1, es2, rfl, hfr1, hfr2, hfg1, hfg2⟩
    refine W_nil fun h S => ?_
    have zs := S.ps _ (hP _ (.tail _ (.head _)))
    have zf := S.ps _ (hP _ (.head _))
    have S' := (S.subP (P' := []) (fun _ h => (nomatch h))).subN (List.sublist_append_right ..)
    have off : ∀ {a : Addr}, a ∉ (T ++ (tdLed w d1 es1 ++ (tdLed w d2 es2 ++ [(dx, att 5 (fiA dd sm fl d1 d2))]))).map (·.1) → a ∉ (tdLed w d1 es1 ++ (tdLed w d2 es2 ++ [(dx, att 5 (fiA dd sm fl d1 d2))])).map (·.1) := fun h q => h (by rw [List.map_append]; exact List.mem_append_right _ q)
    exact ⟨_, S', Ends.nil, rfl, sm, fl, d1, d2, es1, es2, rfl, hd1, hd2, hfr1, hfr2, hfg1, hfg2, ⟨zs.1, gsm, off zs.2.2⟩, ⟨zf.1, gfl, off zf.2.2⟩⟩
end Nt
end
section
open PySem PySem.W PyProof.Rows PySem.Calls
set_option maxRecDepth 100000
set_option autoImplicit false
set_option linter.unusedVariables false
namespace Nt
/-- a dict, its keys only -/
noncomputable def DRaw (h : Heap) (d : Addr) (ks : List Value) (ep : Nat) : Prop := ∃ o es, h.get? d = some o ∧ o.ExactDict ∧ o.data = .dict es ep ∧ es.toList.map (·.key) = ks
theorem DRaw.at' {h h' : Heap} {d : Addr} {ks : List Value} {ep : Nat} (x : DRaw h d ks ep) (k : ∀ o, h.get? d = some o → h'.get? d = some o) : DRaw h' d ks ep := let ⟨o, es, ho, r⟩ := x; ⟨o, es, k _ ho, r⟩
section
variable {w : World} {A : Around} {E : Value → Shared → Prop} {s : Shared}
theorem draw_size {es : Array DictEntry} {ks : List Value} (h : es.toList.map (·.key) = ks) : es.size = ks.length := by rw [← h, List.length_map]; simp
theorem DRaw.typeIs {d : Addr} {ks : List Value} {ep : Nat} (x : DRaw s.heap d ks ep) : s.TypeIs (.ref d) "dict" := let ⟨o, _, ho, hc, _⟩ := x; ⟨o, ho, hc.1⟩
theorem draw_iter {d : Addr} {ks : List Value} {ep : Nat} {Q : Value → Shared → Prop} (hd : (d == sysModules) = false) (hm : DRaw s.heap d ks ep)
    (hQ : Q (.ref s.heap.objs.size) { s with heap := s.heap.push { cls := .type "dict_keyiterator", data := .fields #[.ref d, .int 0 0, .int ks.length 0, .int ep 0] } }) : wpAny (model prg w) A (pyIter (.ref d)) Q E s := by
  have hT := hm.typeIs
  obtain ⟨o, es, ho, hc, hdat, hk⟩ := hm
  refine wpAny_pyIter_slot hT F.slot_dict_iter (wpAny_call_entry F.slot_dict_iter hT F.entry_dict_iter ?_ (F.args_dict_iter_1 _))
  unfold Builtin.«dict.__iter__»
  refine wpAny_bind ?_
  unfold Builtin.Dict.dictSlotNone
  refine wpAny_bind (wpAny_notOrdered_dict hT ?_)
  show wpAny _ _ (pure (Value.ref d)) _ _ s
  refine wpAny_pure ?_
  show wpAny _ _ (Builtin.Dict.showsAll d >>= _) _ _ s
  unfold Builtin.Dict.showsAll
  rw [if_neg (by rw [hd]; exact Bool.false_ne_true)]
  refine wpAny_bind (wpAny_pure (wpAny_bind (wpAny_dictEntries ho hdat (wpAny_bind (wpAny_dictEpoch ho hdat ?_)))))
  have hsz := draw_size hk
  refine wpAny_bind (wpAny_newObj_type (wpAny_pure ⟨_, rfl, "dict_keyiterator", _, ⟨_, Heap.get?_push_size _ rfl, rfl⟩, F.slot_dict_keyiterator_next.lookup, ?_⟩))
  simpa [rawInt, hsz] using hQ
theorem draw_item {it d : Addr} {i ep : Nat} {ks : List Value} {k : Value} {Q : Option Value → Shared → Prop} (hit : s.heap.IsKeyIter it d i ks.length ep) (hm : DRaw s.heap d ks ep) (hx : ks[i]? = some k)
    (hQ : ∀ h', h'.IsKeyIter it d (i + 1) ks.length ep → Heap.SameBut it s.heap h' → Q (some k) { s with heap := h' }) : wpAny (model prg w) A (pyNext (.ref it)) Q E s := by
  obtain ⟨o, ho, hc, hd⟩ := id hit
  obtain ⟨od, es, hod, hcd, hdd, hk⟩ := id hm
  unfold pyNext
  refine wpAny_bind (wpAny_attempt (wpAny_callSpecial?_slot (name := Str.ofString "__next__") hit.typeIs F.slot_dict_keyiterator_next
    (wpAny_call_entry F.slot_dict_keyiterator_next hit.typeIs F.entry_dict_keyiterator_next ?_ (F.args_dict_keyiterator_next_1 _))))
  refine wpAny_bind (wpAny_pure (wpAny_bind (wpAny_bind ?_)))
  first | refine wpAny_bind (wpAny_typeNameOfWhole_keyiter hit.typeIs (wpAny_pure ?_)) | refine wpAny_bind (wpAny_typeNameOf_keyiter hit.typeIs (wpAny_pure ?_))
  refine wpAny_bind (wpAny_fieldsOf ho hd ?_)
  have hown : Builtin.Dict_items.ownsTuple "dict_keyiterator" = false := by decide
  simp only [hown, Bool.false_eq_true, if_false]
  show wpAny _ _ (if (Value.ref d == Value.none) = true then _ else _) _ _ s
  rw [if_neg (show ¬ ((Value.ref d == Value.none) = true) from Bool.false_ne_true)]
  refine wpAny_bind (wpAny_pure (wpAny_bind (wpAny_dictEntries hod hdd ?_)))
  have hsz := draw_size hk
  rw [if_neg (by rw [hsz]; simp)]
  refine wpAny_bind (wpAny_pure (wpAny_bind (wpAny_dictEpoch hod hdd ?_)))
  rw [if_neg (by simp)]
  refine wpAny_pure ?_
  have hlt : i < ks.length := (List.getElem?_eq_some_iff.mp hx).1
  have hlt' : i < es.size := by rw [hsz]; exact hlt
  have hkey : es[i].key = k := by
    have e : (es.toList.map (·.key))[i]? = some k := by rw [hk]; exact hx
    rw [List.getElem?_map, Array.getElem?_toList, Array.getElem?_eq_getElem hlt'] at e
    exact Option.some.inj e
  simp only [show ¬ ((i : Int) < 0) from by omega, if_false, Int.toNat_natCast, Array.getElem?_eq_getElem hlt']
  refine wpAny_bind ?_
  first | refine wpAny_bind (wpAny_typeNameOfWhole_keyiter hit.typeIs (wpAny_pure ?_)) | refine wpAny_bind (wpAny_typeNameOf_keyiter hit.typeIs (wpAny_pure ?_))
  refine wpAny_bind (wpAny_isOneOf_keyiter hit.typeIs ?_)
  show wpAny _ _ (setField (.ref it) 1 (rawInt ((i : Int) + 1)) >>= _) _ _ s
  refine wpAny_bind (wpAny_setField ho hd (by simp) ?_)
  have hit' : (s.heap.update it (Obj.mapFields (·.setIfInBounds 1 (rawInt ((i : Int) + 1))))).IsKeyIter it d (i + 1) ks.length ep :=
    ⟨_, Heap.get?_update_self _ ho (Obj.isFreed_of_fields (Obj.data_mapFields hd _)), (Obj.cls_mapFields ..).trans hc, by rw [Obj.data_mapFields hd]; simp [rawInt]⟩
  refine wpAny_bind (wpAny_holding ?_)
  refine wpAny_bind (wpAny_isOneOf_keyiter (s := { s with heap := s.heap.update it (Obj.mapFields (·.setIfInBounds 1 (rawInt ((i : Int) + 1)))) }) hit'.typeIs ?_)
  show wpAny _ _ (pure es[i].key) _ _ _
  rw [hkey]
  exact wpAny_pure (wpAny_pure ⟨_, rfl, wpAny_pure (hQ _ hit' (Heap.SameBut.update ..))⟩)
theorem draw_end {it d : Addr} {i ep : Nat} {ks : List Value} {Q : Option Value → Shared → Prop} (hh : A.handled = none) (hit : s.heap.IsKeyIter it d i ks.length ep) (hm : DRaw s.heap d ks ep) (hx : ks.length ≤ i)
    (hQ : ∀ h', Heap.ExtBut it s.heap h' → Q none { s with heap := h' }) : wpAny (model prg w) A (pyNext (.ref it)) Q E s := by
  obtain ⟨o, ho, hc, hd⟩ := id hit
  obtain ⟨od, es, hod, hcd, hdd, hk⟩ := id hm
  unfold pyNext
  refine wpAny_bind (wpAny_attempt (wpAny_callSpecial?_slot (name := Str.ofString "__next__") hit.typeIs F.slot_dict_keyiterator_next
    (wpAny_call_entry F.slot_dict_keyiterator_next hit.typeIs F.entry_dict_keyiterator_next ?_ (F.args_dict_keyiterator_next_1 _))))
  refine wpAny_bind (wpAny_pure (wpAny_bind (wpAny_bind ?_)))
  first | refine wpAny_bind (wpAny_typeNameOfWhole_keyiter hit.typeIs (wpAny_pure ?_)) | refine wpAny_bind (wpAny_typeNameOf_keyiter hit.typeIs (wpAny_pure ?_))
  refine wpAny_bind (wpAny_fieldsOf ho hd ?_)
  have hown : Builtin.Dict_items.ownsTuple "dict_keyiterator" = false := by decide
  simp only [hown, Bool.false_eq_true, if_false]
  show wpAny _ _ (if (Value.ref d == Value.none) = true then _ else _) _ _ s
  rw [if_neg (show ¬ ((Value.ref d == Value.none) = true) from Bool.false_ne_true)]
  refine wpAny_bind (wpAny_pure (wpAny_bind (wpAny_dictEntries hod hdd ?_)))
  have hsz := draw_size hk
  rw [if_neg (by rw [hsz]; simp)]
  refine wpAny_bind (wpAny_pure (wpAny_bind (wpAny_dictEpoch hod hdd ?_)))
  rw [if_neg (by simp)]
  refine wpAny_pure ?_
  have hge : es.size ≤ i := by rw [hsz]; exact hx
  simp only [show ¬ ((i : Int) < 0) from by omega, if_false, Int.toNat_natCast, Array.getElem?_eq_none hge]
  refine wpAny_bind ?_
  first | refine wpAny_bind (wpAny_typeNameOfWhole_keyiter hit.typeIs (wpAny_pure ?_)) | refine wpAny_bind (wpAny_typeNameOf_keyiter hit.typeIs (wpAny_pure ?_))
  show wpAny _ _ (setField (.ref it) 0 .none >>= _) _ _ s
  refine wpAny_bind (wpAny_setField ho hd (by simp) ?_)
  show wpAny _ _ (newExc (.type "StopIteration") [] >>= _) _ _ _
  refine wpAny_bind ?_
  simp only [newExc, newTuple]
  refine wpAny_bind (wpAny_newObj_type ?_ (by size_fits))
  refine wpAny_bind (m := firstArgMember _ _) (wpAny_of_eq (a := Value.none) (by first | rfl | (simp only [firstArgMember]; rfl)) ?_)
  refine wpAny_newObj_type ?_ (by size_fits)
  simp only [raiseNew]
  refine wpAny_bind (wpAny_handled ?_)
  rw [show A.in1.handled = none from hh]
  refine wpAny_bind (wpAny_pure (wpAny_throw ?_))
  refine wpAny_bind (wpAny_isInstance (T := "StopIteration") (b := true) ⟨_, Heap.get?_push_size _ rfl, rfl⟩ isSubtype_stop ?_)
  exact wpAny_pure (hQ _ (((Heap.SameBut.update ..).extBut.push _).push _))
end
theorem draw_walks {w : World} {A : Around} (hh : A.handled = none) (I d : Addr) (hne : d ≠ I) (ks : List Value) (ep : Nat) :
    Walks prg w A I [I, d] [I] ks.length (fun i v => ks[i]? = some v) (fun i h => h.IsKeyIter I d i ks.length ep ∧ DRaw h d ks ep) where
  sub := fun b hb => by simp at hb; simp [hb]
  frame := fun _ _ _ st hk => ⟨let ⟨o, ho, r⟩ := st.1; ⟨o, hk I (by simp) o ho, r⟩, st.2.at' fun o e => hk d (by simp) o e⟩
  item := fun i s Q E hi st hQ => draw_item st.1 st.2 (k := ks[i]) (by simp [hi]) fun h' hit' hs' => hQ _ h' s.toks (by simp [hi]) ⟨hit', st.2.at' fun o e => (hs'.2 d hne).trans e⟩ fun b o hb e => (hs'.2 b fun h => hb (by simp [h])).trans e
  done := fun s Q E st hQ => draw_end hh st.1 st.2 (Nat.le_refl _) fun h' he' => hQ h' s.toks fun b o hb e => he' b o (fun h => hb (by simp [h])) e
  self := fun _ _ _ _ st hQ => wpAny_pyIter_keyiter st.1 hQ
theorem draw_src {w : World} {d : Addr} {ks : List Value} {ep : Nat} (lo : (d == sysModules) = false) : KdlSrc prg w "dict" d d ks.length (fun i v => ks[i]? = some v) (fun h => DRaw h d ks ep) where
  type := fun _ hm => hm.typeIs
  there := fun _ hm => let ⟨_, _, ho, _⟩ := hm; ⟨Heap.lt_size ho, Heap.lt_size ho⟩
  keep := fun _ _ hm hk => hm.at' fun o e => hk d (.inl rfl) o e
  notList := by decide
  notTuple := by decide
  hint := fun _ _ _ _ hm hq => kdl_hint_dict hm.typeIs hq
  iter := fun _ _ hh hm => ⟨_, _, (fun _ _ hq => draw_iter lo hm hq), draw_walks hh _ d (let ⟨_, _, ho, _⟩ := hm; Nat.ne_of_lt (Heap.lt_size ho)) ks ep, ⟨⟨_, Heap.get?_push_size _ rfl, rfl, rfl⟩, hm.at' fun _ e => Heap.get?_push_of_some _ e⟩⟩
end Nt
end
section
open PySem PySem.W PyProof.Rows PySem.Calls
set_option maxRecDepth 100000
set_option autoImplicit false
set_option linter.unusedVariables false
namespace Nt
/-- every end of a tree of questions -/
inductive Leaf {α : Type} (n : Nat) (P : α → Prop) : KasT α → Prop
  | ret {a : α} : P a → Leaf n P (.ret a)
  | ask {i j : Nat} {k : Bool → KasT α} : i < n → j < n → (∀ b, Leaf n P (k b)) → Leaf n P (.ask i j k)
theorem Leaf.bind {α β : Type} {n : Nat} {P : α → Prop} {R : β → Prop} {f : α → KasT β} {t : KasT α} (x : Leaf n P t) (y : ∀ a, P a → Leaf n R (f a)) : Leaf n R (t.bind f) := by
  induction x with
  | ret h => exact y _ h
  | ask hi hj _ ih => exact .ask hi hj ih
theorem Leaf.wp {α : Type} {n : Nat} {P : α → Prop} {cmp : Nat → Nat → (Bool → Shared → Prop) → Shared → Prop} {Q : α → Shared → Prop} {s : Shared} (hc : ∀ i j C, i < n → j < n → (∀ b, C b s) → cmp i j C s) (hq : ∀ a, P a → Q a s) {t : KasT α} (x : Leaf n P t) : t.kasWp cmp Q s := by
  induction x with
  | ret h => exact hq _ h
  | ask hi hj _ ih => exact hc _ _ _ hi hj ih
noncomputable def Pm (n : Nat) (p : Array Nat) : Prop := p.Perm (List.range n).toArray
theorem Pm.lt {n : Nat} {p : Array Nat} (h : Pm n p) (hn : 0 < n) (i : Nat) : p.getD i 0 < n := by
  by_cases hi : i < p.size
  · have : p[i] ∈ p := Array.getElem_mem ..
    have := h.mem_iff.mp this
    simp at this
    simpa [Array.getD, hi] using this
  · simpa [Array.getD, hi] using hn
theorem Pm.rev {n : Nat} {p : Array Nat} (h : Pm n p) (i j : Nat) : Pm n (kas_rev p i j) := (mirror_perm ..).trans h
theorem Pm.bub {n : Nat} {p : Array Nat} (h : Pm n p) (i j : Nat) : Pm n (bubble p i j) := (bubble_perm ..).trans h
theorem leaf_asc {n : Nat} {p : Array Nat} (h : Pm n p) (hn : 0 < n) : ∀ f k, Leaf n (fun _ => True) (kas_asc p f k)
  | 0, k => .ret trivial
  | f + 1, k => .ask (h.lt hn _) (h.lt hn _) fun b => by
    cases b with
    | true => exact .ret trivial
    | false => exact leaf_asc h hn f (k + 1)
theorem leaf_desc {n : Nat} (hn : 0 < n) : ∀ f p k q, Pm n p → Leaf n (fun r => Pm n r.1) (kas_desc f p k q)
  | 0, p, k, q, h => .ret h
  | f + 1, p, k, q, h => .ask (h.lt hn _) (h.lt hn _) fun b => by
    cases b with
    | true =>
      show Leaf n _ (if q > 0 then _ else _)
      split
      · exact leaf_desc hn f _ _ _ (h.rev _ _)
      · exact leaf_desc hn f _ _ _ h
    | false =>
      exact .ask (h.lt hn _) (h.lt hn _) fun d => by
        cases d with
        | true => exact .ret h
        | false => exact leaf_desc hn f _ _ _ h
theorem leaf_tail {n : Nat} (hn : 0 < n) {a b : Nat} {p : Array Nat} (h : Pm n p) : Leaf n (fun r => Pm n r.2) (kas_tail3 a b p) := (leaf_asc (h.rev _ _) hn _ _).bind fun _ _ => .ret (h.rev _ _)
theorem leaf_descPart {n : Nat} (hn : 0 < n) {a b : Nat} {p : Array Nat} (h : Pm n p) : Leaf n (fun r => Pm n r.2) (kas_descPart a b p) := (leaf_desc hn _ _ _ _ h).bind fun r hr => by
  split
  · exact leaf_tail hn (hr.rev _ _)
  · exact leaf_tail hn hr
theorem leaf_count {n : Nat} (hn : 0 < n) {b : Nat} {p : Array Nat} (h : Pm n p) : Leaf n (fun r => Pm n r.2) (kas_count b p) := (leaf_asc h hn _ _).bind fun k _ => by
  split
  · exact .ret h
  · split
    · exact .ask (h.lt hn _) (h.lt hn _) fun c => by
        cases c with
        | true => exact .ret h
        | false => exact leaf_descPart hn (h.rev _ _)
    · exact leaf_descPart hn h
theorem leaf_place {n : Nat} (hn : 0 < n) {p : Array Nat} {k : Nat} (h : Pm n p) : ∀ f l r, Leaf n (fun _ => True) (kas_place p k f l r)
  | 0, l, r => .ret trivial
  | f + 1, l, r => by
    unfold kas_place
    split
    · exact .ret trivial
    · exact .ask (h.lt hn _) (h.lt hn _) fun c => by
        cases c with
        | true => exact leaf_place hn h f _ _
        | false => exact leaf_place hn h f _ _
theorem leaf_bin {n : Nat} (hn : 0 < n) : ∀ f p k, Pm n p → Leaf n (Pm n) (kas_bin f p k)
  | 0, p, k, h => .ret h
  | f + 1, p, k, h => (leaf_place hn h _ _ _).bind fun l _ => leaf_bin hn f _ _ (h.bub _ _)
theorem leaf_sort {n : Nat} (hn : 0 < n) : Leaf n (Pm n) (kas_sort n) := (leaf_count hn (Array.Perm.refl _)).bind fun r hr => by
  split
  · exact leaf_bin hn _ _ _ hr
  · exact .ret hr
end Nt
end
section
open PySem PySem.W PyProof.Rows PySem.Calls
set_option maxRecDepth 100000
set_option autoImplicit false
set_option linter.unusedVariables false
namespace Nt
/-- all objects of a heap but one -/
noncomputable def allO (h : Heap) (L : Addr) : List (Addr × Obj) := (List.range h.objs.size).filterMap fun a => if a = L then none else (h.get? a).map fun o => (a, o)
theorem allO_mem {h : Heap} {L a : Addr} {o : Obj} (ho : h.get? a = some o) (hn : a ≠ L) : (a, o) ∈ allO h L :=
  List.mem_filterMap.mpr ⟨a, List.mem_range.mpr (Heap.lt_size ho), by rw [if_neg hn, ho]; rfl⟩
theorem allO_get {h : Heap} {L : Addr} {p : Addr × Obj} (hp : p ∈ allO h L) : h.get? p.1 = some p.2 ∧ p.1 ≠ L := by
  obtain ⟨a, _, e⟩ := List.mem_filterMap.mp hp
  split at e
  · cases e
  · rename_i hn
    cases q : h.get? a with
    | none => rw [q] at e; cases e
    | some o => rw [q] at e; cases e; exact ⟨q, hn⟩
theorem noHeap (a : Addr) : ({} : Heap).get? a = none := by
  cases q : ({} : Heap).get? a with
  | none => rfl
  | some o => exact absurd (Heap.lt_size q) (Nat.not_lt_zero _)
theorem St.fr {w : World} {G : Heap} {L : Addr} {P N : Led} {m : Vars} {h : Heap} (S : St w G L P N m h) : Fr {} L h (lk m) := ⟨S.ns, fun b o e => absurd e (by rw [noHeap]; exact fun q => nomatch q), Nat.zero_le _⟩
theorem St.news {w : World} {G : Heap} {L : Addr} {P N : Led} {m : Vars} {h : Heap} (S : St w G L P N m h) : News {} L h (allO h L) := fun p hp => ⟨(allO_get hp).1, (allO_get hp).2, noHeap _⟩
/-- from the library's frame back -/
theorem St.back {w : World} {G : Heap} {L : Addr} {P N : Led} {m : Vars} {h h' : Heap} {X : List (Addr × Obj)} (S : St w G L P N m h) (F : Fr {} L h' (lk m)) (Nw : News {} L h' X) (hs : ∀ p ∈ allO h L, p ∈ X) : St w G L P N m h' := by
  have k : ∀ b o, b ≠ L → h.get? b = some o → h'.get? b = some o := fun b o hb e => (Nw _ (hs _ (allO_mem e hb))).1
  refine ⟨S.base, fun b o e => k _ _ (fun q => by rw [q, S.out] at e; cases e) (S.keep b o e), F.ns, S.out, fun p hp => ⟨?_, (S.nw p hp).2⟩, S.nd, fun p hp => ⟨?_, (S.ps p hp).2⟩⟩
  · obtain ⟨o, ho, r⟩ := (S.nw p hp).1; exact ⟨o, k _ _ (S.nw p hp).2.1 ho, r⟩
  · obtain ⟨o, ho, r⟩ := (S.ps p hp).1; exact ⟨o, k _ _ (S.ps p hp).2.1 ho, r⟩
section
variable {w : World} {A : Around} {E : Value → Shared → Prop} {s : Shared}
theorem katlex_ints {b : Bool} {fin : Bool} {C : Bool → Shared → Prop} (hC : ∀ b, C b s) {xs : List Value} {ns : List Int} (hx : IntsAre xs ns) : ∀ {ys : List Value} {ms : List Int} (i : Nat), IntsAre ys ms → KatLex prg w A b fin C (xs.zip ys) i s := by
  induction hx with
  | nil => intro ys ms i _; exact kat_nil (hC _)
  | cons n t hx ih =>
    intro ys ms i hy
    cases hy with
    | nil => exact kat_nil (hC _)
    | cons m u hy =>
      refine kat_cons (wpAny_eqBool_int ?_)
      refine kat_go (fun _ => kat_yes (ih (i + 1) hy)) fun _ => kat_no ?_
      cases (b && i == 0) with
      | true => exact oneLt_int (hC _)
      | false => exact kat_one _ _ (PyProof.Rows.lt_int (hC _))
/-- list.sort on less than two items -/
theorem sort_short {a : Addr} {vs : List Value} {n : Nat} {P : Fin → Shared → Prop} (ho : s.heap.get? a = some (seqObj "list" vs.toArray n)) (h2 : vs.length < 2)
    (h : P (.done (.ret .none)) { s with heap := sortedHeap s.heap a vs ((vs.toArray.zip vs.toArray).map (·.2)) }) : wpAny (model prg w) A (Builtin.«list.sort» ⟨[.ref a], []⟩) P E s := by
  rw [list_sort_plain]
  have ha : a < s.heap.objs.size := Heap.lt_size ho
  refine wpAny_bind (listItems_at ho rfl (wpAny_bind (listUpdate_at ho rfl ?_ (by rw [List.size_toArray, sizeLine_eq]; omega) (Nat.zero_le _))))
  obtain ⟨e1, ho1⟩ : ∃ e1, (s.heap.update a (Obj.mapSeq fun _ => #[])).get? a = some (seqObj "list" #[] e1) := ⟨_, get?_update_seq ho (fun _ => #[])⟩
  refine wpAny_bind (seqEpoch_at ho1 rfl (wpAny_bind (wpAny_newTuple (wpAny_bind (wpAny_newList (wpAny_holding ?_) (Nat.zero_le _))) (by show vs.length ≤ _; rw [sizeLine_eq]; omega))))
  have ho6 : (((s.heap.update a (Obj.mapSeq fun _ => #[])).push (seqObj "tuple" vs.toArray 0)).push (seqObj "list" #[] 0)).get? a = some (seqObj "list" #[] e1) := by
    rw [Heap.get?_push_ne _ _ _ (by rw [size_push', Heap.size_update]; exact Nat.ne_of_lt (Nat.lt_succ_of_lt ha)), Heap.get?_push_ne _ _ _ (by rw [Heap.size_update]; exact Nat.ne_of_lt ha)]
    exact ho1
  show wpAny (model prg w) A _ P E { s with heap := ((s.heap.update a (Obj.mapSeq fun _ => #[])).push (seqObj "tuple" vs.toArray 0)).push (seqObj "list" #[] 0) }
  dsimp only
  have hsz : vs.toArray.size < 2 := by simpa using h2
  rw [if_pos hsz, if_pos hsz]
  refine wpAny_bind (wpAny_pure ?_)
  rw [StateT.run_pure]
  refine wpAny_bind (wpAny_pure ?_)
  dsimp only
  refine wpAny_bind (seqEpoch_at ho6 rfl (wpAny_bind (listUpdate_at ho6 rfl ?_ (Nat.zero_le _) (by rw [Array.size_map]; show (vs.toArray.zip vs.toArray).size ≤ _; simp; rw [sizeLine_eq]; omega))))
  simp only [bne_self_eq_false, Bool.false_eq_true, if_false]
  exact wpAny_pure h
end
theorem St.addN {w : World} {G : Heap} {L : Addr} {P N : Led} {m : Vars} {h : Heap} {a : Addr} {p : OP} (S : St w G L P N m h) (hp : Has h a p) (f : a ≠ L ∧ a ∉ N.map (·.1) ∧ a ∉ P.map (·.1) ∧ G.get? a = none) : St w G L P ((a, p) :: N) m h := by
  refine ⟨S.base, S.keep, S.ns, S.out, fun q hq => ?_, List.nodup_cons.mpr ⟨f.2.1, S.nd⟩, fun q hq => ⟨(S.ps q hq).1, (S.ps q hq).2.1, fun hm => ?_⟩⟩
  · rcases List.mem_cons.mp hq with rfl | hq
    · exact ⟨hp, f.1, f.2.2.2⟩
    · exact S.nw q hq
  · rcases List.mem_cons.mp hm with e | hm
    · exact f.2.2.1 ((show q.1 = a from e) ▸ List.mem_map_of_mem hq)
    · exact (S.ps q hq).2.2 hm
theorem St.but {w : World} {G : Heap} {L : Addr} {P N : Led} {m : Vars} {h h' : Heap} {a : Addr} (S : St w G L P N m h) (f : a ≠ L ∧ a ∉ N.map (·.1) ∧ a ∉ P.map (·.1) ∧ G.get? a = none) (k : ∀ b o, b ≠ a → h.get? b = some o → h'.get? b = some o) : St w G L P N m h' := by
  refine ⟨S.base, fun b o e => k _ _ (fun q => by rw [q, f.2.2.2] at e; cases e) (S.keep b o e), ?_, S.out, fun p hp => ⟨?_, (S.nw p hp).2⟩, S.nd, fun p hp => ⟨?_, (S.ps p hp).2⟩⟩
  · obtain ⟨o, es, ep, ho, r⟩ := S.ns; exact ⟨o, es, ep, k _ _ (Ne.symm f.1) ho, r⟩
  · obtain ⟨o, ho, r⟩ := (S.nw p hp).1; exact ⟨o, k _ _ (fun q => f.2.1 (q ▸ List.mem_map_of_mem hp)) ho, r⟩
  · obtain ⟨o, ho, r⟩ := (S.ps p hp).1; exact ⟨o, k _ _ (fun q => f.2.2.1 (q ▸ List.mem_map_of_mem hp)) ho, r⟩
theorem St.backBut {w : World} {G : Heap} {L : Addr} {P N : Led} {m : Vars} {h h' : Heap} {a : Addr} {X : List (Addr × Obj)} (S : St w G L P N m h) (f : a ≠ L ∧ a ∉ N.map (·.1) ∧ a ∉ P.map (·.1) ∧ G.get? a = none) (F : Fr {} L h' (lk m)) (Nw : News {} L h' X) (hs : ∀ p ∈ allO h L, p.1 ≠ a → p ∈ X) : St w G L P N m h' := by
  have k : ∀ b o, b ≠ L → b ≠ a → h.get? b = some o → h'.get? b = some o := fun b o hb hc e => (Nw _ (hs _ (allO_mem e hb) hc)).1
  refine ⟨S.base, fun b o e => k _ _ (fun q => by rw [q, S.out] at e; cases e) (fun q => by rw [q, f.2.2.2] at e; cases e) (S.keep b o e), F.ns, S.out, fun p hp => ⟨?_, (S.nw p hp).2⟩, S.nd, fun p hp => ⟨?_, (S.ps p hp).2⟩⟩
  · obtain ⟨o, ho, r⟩ := (S.nw p hp).1; exact ⟨o, k _ _ (S.nw p hp).2.1 (fun q => f.2.1 (q ▸ List.mem_map_of_mem hp)) ho, r⟩
  · obtain ⟨o, ho, r⟩ := (S.ps p hp).1; exact ⟨o, k _ _ (S.ps p hp).2.1 (fun q => f.2.2.1 (q ▸ List.mem_map_of_mem hp)) ho, r⟩
theorem tups_of {h : Heap} : ∀ {xs : TX}, (∀ y ∈ xs, Has h y.2.1 (tupI y.1)) → (∀ y ∈ xs, y.1 ≠ []) → ∃ fs, KatTups h (xs.map fun y => Value.ref y.2.1) fs ∧ (∀ v ∈ fs, ∃ n t, v = Value.int n t) ∧ fs.length = xs.length
  | [], _, _ => ⟨[], .nil, (fun _ h => (nomatch h)), rfl⟩
  | (yk, ya, yv) :: r, hk, hne => by
    obtain ⟨fs, a, b, c⟩ := tups_of (xs := r) (fun z hz => hk z (.tail _ hz)) fun z hz => hne z (.tail _ hz)
    obtain ⟨o, ho, vs, hi, n, rfl⟩ := hk (yk, ya, yv) (.head _)
    have hn := hne (yk, ya, yv) (.head _)
    dsimp only at hi hn ho
    cases hi with
    | nil => exact absurd rfl hn
    | cons k t hi =>
      refine ⟨.int k t :: fs, KatTups.cons ho rfl rfl rfl a, fun v hv => ?_, by rw [List.length_cons, List.length_cons, c]⟩
      rcases List.mem_cons.mp hv with rfl | hv
      · exact ⟨k, t, rfl⟩
      · exact b v hv
theorem perm_pick {ks : List Value} {p : Array Nat} (h : Pm ks.length p) : (p.toList.map fun i => ks.getD i Value.none).Perm ks := by
  have h1 : p.toList.Perm (List.range ks.length) := by simpa using Array.perm_iff_toList_perm.mp h
  refine (h1.map _).trans (.of_eq ?_)
  apply List.ext_getElem?
  intro i
  rw [List.getElem?_map]
  by_cases hi : i < ks.length
  · rw [List.getElem?_range hi]
    simp [hi]
  · rw [List.getElem?_eq_none (by simpa using hi), List.getElem?_eq_none (by simpa using hi)]; rfl
theorem list_of_items {ks : List Value} {acc : Array Value} (h : ItemsOf (fun i v => ks[i]? = some v) acc ks.length) : acc.toList = ks := by
  apply List.ext_getElem?
  intro i
  rw [Array.getElem?_toList]
  cases q : acc[i]? with
  | some v => exact (h.2 i v q).symm
  | none =>
    have : acc.size ≤ i := by simpa using q
    rw [h.1] at this
    exact (List.getElem?_eq_none this).symm
section
variable {w : World} {G : Heap} {L : Addr} {d : Nat} {P N : Led} {m : Vars} {Q : Value → Led → Led → Vars → Prop}
/-- sorted(d): some order of the keys, when list.sort gives some order of them -/
theorem sorted_dict {da : Addr} {ks : List Value} {ep : Nat} {A : Around} {s : Shared} {C : Value → Shared → Prop} (R : Room d A) (S : St w G L P N m s.heap) (hm : DRaw s.heap da ks ep) (hn : (da == sysModules) = false) (hz : ks.length < 64)
    (k : ∀ h1 D tk, St w G L P N m h1 → h1.get? D = some (seqObj "list" ks.toArray 0) → (D ≠ L ∧ D ∉ N.map (·.1) ∧ D ∉ P.map (·.1) ∧ G.get? D = none) → wpAny (model prg w) A.in1 (call (.builtin "list.sort") [.ref D]) (fun _ s' => C (.ref D) s') Nope { s with heap := h1, toks := tk }) :
    wpAny (model prg w) A (call (.builtin "sorted") [.ref da]) C Nope s := by
  refine Calls.call_function_entry kind_sorted plain_sorted entry_sorted (args_sorted1 _) ?_
  unfold Builtin.«sorted»
  refine wpAny_bind (m := checkCount "sorted" 1 1 _) (wpAny_pure ?_)
  refine wpAny_bind (kdu_collect (A := A.in1) (draw_src hn) R.handled hm (by rw [sizeLine_eq]; omega) fun h' tk acc hk hacc => ?_)
  have e := list_of_items hacc
  rw [e]
  refine wpAny_bind (wpAny_newList ?_ (by rw [sizeLine_eq]; omega))
  have S1 : St w G L P N m h' := S.grow hk
  have S2 : St w G L P N m (h'.push (seqObj "list" ks.toArray 0)) := S1.grow fun _ _ e => Heap.get?_push_of_some _ e
  have hg := k _ h'.objs.size tk S2 (Heap.get?_push_size _ rfl) (S1.fresh (get_size_none _))
  exact wpAny_bind (wpAny_holding (wpAny_mono hg (fun _ s' x => wpAny_pure ⟨_, rfl, x⟩) fun _ _ e => e))
theorem hdk_draw {h : Heap} {da : Addr} {xs : TX} (x : Has h da (hdk w xs)) : ∃ ep, DRaw h da (xs.map fun y => .ref y.2.1) ep := by
  obtain ⟨o, ho, hc, es, ep, hd, he, _⟩ := x
  exact ⟨ep, o, es, ho, hc, hd, by rw [he, List.map_map]; rfl⟩
theorem dk_draw {h : Heap} {da : Addr} {kvs : List (Int × Value)} (x : Has h da (dk (intKind prg w) kvs)) : ∃ ks ep, DRaw h da ks ep ∧ IntsAre ks (kvs.map (·.1)) := by
  obtain ⟨o, ho, es, ep, hc, hd, _, hp, hnd⟩ := x
  refine ⟨_, ep, ⟨o, es, ho, hc, hd, rfl⟩, ?_⟩
  clear hd hnd
  generalize es.toList = l at hp
  induction hp with
  | nil => exact .nil
  | cons h1 h2 _ ih =>
    obtain ⟨t, ht⟩ := Value.isInt_shape h1
    rw [List.map_cons, List.map_cons, ht]
    exact .cons _ _ ih
/-- sorted(d), int keys -/
theorem W_sortedDI {da : Addr} {kvs : List (Int × Value)} (hd : Rd G P N da (dk (intKind prg w) kvs)) (hn : (da == sysModules) = false) (hz : kvs.length < 64) (q : ∀ r ns, ns.Perm (kvs.map (·.1)) → ns.Pairwise (· ≤ ·) → Q (.ref r) P ((r, lstI ns) :: N) m) :
    W w G L d (call (.builtin "sorted") [.ref da]) P N m Q := W.mk fun A s R S => by
  obtain ⟨ks, ep, hm, hi⟩ := dk_draw (S.rd hd)
  have hkl := hi.length
  rw [List.length_map] at hkl
  refine sorted_dict R S hm hn (by omega) fun h1 D tk S1 hD hf => ?_
  refine wpAny_call_entry slot_list_sort ⟨_, hD, rfl⟩ entry_list_sort (list_sort_tree (s := { s with heap := h1, toks := tk }) hD hi (by omega) fun out ns' a1 a2 a3 => ⟨_, rfl, ?_⟩) (args_list_sort _)
  obtain ⟨e, he⟩ := sortedHeap_at (vs := ks) (out := out) hD
  refine Done.here (tk := tk) (St.addN (p := lstI ns') (S1.but hf fun b o hb hg => (sortedHeap_old hb (Heap.lt_size hg)).trans hg) ⟨_, he, out.toList, a1, e, ?_⟩ hf) (q D ns' a2 a3)
  unfold seqObj lobj
  rw [Array.toArray_toList]
/-- sorted(d), keys tuples of ints: some order of them -/
theorem W_sortedTD {da : Addr} {xs : TX} (hd : Rd G P N da (hdk w xs)) (hn : (da == sysModules) = false) (hk : ∀ y ∈ xs, Rd G P N y.2.1 (tupI y.1)) (hne : ∀ y ∈ xs, y.1 ≠ []) (hz : xs.length < 64)
    (q : ∀ r vs, vs.Perm (xs.map fun y => Value.ref y.2.1) → Q (.ref r) P ((r, lst vs) :: N) m) : W w G L d (call (.builtin "sorted") [.ref da]) P N m Q := W.mk fun A s R S => by
  obtain ⟨ep, hm⟩ := hdk_draw (S.rd hd)
  refine sorted_dict R S hm hn (by rw [List.length_map]; exact hz) fun h1 D tk S1 hD hf => ?_
  refine wpAny_call_entry slot_list_sort ⟨_, hD, rfl⟩ entry_list_sort ?_ (args_list_sort _)
  by_cases h2 : xs.length < 2
  · refine sort_short (s := { s with heap := h1, toks := tk }) hD (by rw [List.length_map]; exact h2) ⟨_, rfl, ?_⟩
    obtain ⟨e, he⟩ := sortedHeap_at (vs := xs.map fun y => Value.ref y.2.1) (out := ((xs.map fun y => Value.ref y.2.1).toArray.zip (xs.map fun y => Value.ref y.2.1).toArray).map (·.2)) hD
    refine Done.here (tk := tk) (St.addN (p := lst (xs.map fun y => Value.ref y.2.1)) (S1.but hf fun b o hb hg => (sortedHeap_old hb (Heap.lt_size hg)).trans hg) ⟨_, he, e, ?_⟩ hf) (q D _ (.refl _))
    unfold seqObj lobj
    congr 2
    apply Array.toList_inj.mp
    simp [List.map_snd_zip]
  · have hkl : (xs.map fun y => Value.ref y.2.1).length = xs.length := List.length_map ..
    have hna : ∀ p ∈ (allO h1 L).filter fun p => decide (p.1 ≠ D), p.1 ≠ D := fun p hp => by simpa using (List.mem_filter.mp hp).2
    have hsub : ∀ p ∈ allO h1 L, p.1 ≠ D → p ∈ (allO h1 L).filter fun p => decide (p.1 ≠ D) := fun p hp hq => List.mem_filter.mpr ⟨hp, by simpa using hq⟩
    refine kat_list_sort (s := { s with heap := h1, toks := tk }) (news := (allO h1 L).filter fun p => decide (p.1 ≠ D)) S1.fr (fun p hp => S1.news p (List.mem_filter.mp hp).1) hD hf.1 (noHeap _) hna (by rw [hkl]; omega) (by rw [hkl]; exact hz) fun e1 h2' F2 N2 => ?_
    have S2 := S1.backBut hf F2 N2 fun p hp hq => .tail _ (hsub p hp hq)
    obtain ⟨fs, t1, t2, t3⟩ := tups_of (h := h2') (xs := xs) (fun y hy => S2.rd (hk y hy)) hne
    refine kat_kind t1 (by omega) (T := .type "int") (fun v hv => ?_) rfl ?_
    · obtain ⟨n, t, rfl⟩ := t2 v hv
      exact .now
    · refine Leaf.wp (n := xs.length) (P := Pm xs.length) (fun i j C hi hj hC => ?_) (fun p hp => ?_) (by rw [hkl]; exact leaf_sort (by omega))
      · unfold kas_ask
        have gi : ∀ i, (hi : i < xs.length) → (xs.map fun y => Value.ref y.2.1).getD i Value.none = .ref xs[i].2.1 := fun i hi => by
          rw [List.getD_eq_getElem?_getD, List.getElem?_map, List.getElem?_eq_getElem hi]; rfl
        rw [gi i hi, gi j hj]
        obtain ⟨o1, ho1, vs1, hi1, n1, rfl⟩ := S2.rd (hk xs[i] (List.getElem_mem ..))
        obtain ⟨o2, ho2, vs2, hi2, n2, rfl⟩ := S2.rd (hk xs[j] (List.getElem_mem ..))
        exact kat_lt ho1 rfl ho2 rfl (katlex_ints hC hi1 0 hi2)
      · refine KasFin.intro (news := (D, seqObj "list" #[] e1) :: (allO h1 L).filter fun p => decide (p.1 ≠ D)) F2 N2 (.head hna) fun h3 c F3 N3 => ⟨_, rfl, ?_⟩
        have S3 := S1.backBut hf F3 N3 fun p hp hq => .tail _ (hsub p hp hq)
        exact Done.here (tk := tk) (St.addN (p := lst _) S3 ⟨_, (N3 _ (.head _)).1, c, rfl⟩ hf) (q D _ (perm_pick (by rw [hkl]; exact hp)))
end
end Nt
end
section
open PySem PySem.W PyProof.Rows PySem.Calls
set_option maxRecDepth 100000
set_option autoImplicit false
set_option linter.unusedVariables false
namespace Nt
theorem perm_lift {α β : Type} {g : α → β} {l' q : List β} (h : l'.Perm q) : ∀ {l : List α}, l.map g = q → ∃ m : List α, m.Perm l ∧ l' = m.map g := by
  induction h with
  | nil =>
    intro l hq
    cases l with
    | nil => exact ⟨[], .nil, rfl⟩
    | cons a r => cases hq
  | cons x _ ih =>
    intro l hq
    cases l with
    | nil => cases hq
    | cons a r =>
      rw [List.map_cons] at hq
      injection hq with h1 h2
      obtain ⟨m, h3, h4⟩ := ih h2
      exact ⟨a :: m, h3.cons a, by rw [List.map_cons, h1, h4]⟩
  | swap x y t =>
    intro l hq
    match l, hq with
    | a :: b :: r, hq =>
      simp only [List.map_cons, List.cons.injEq] at hq
      obtain ⟨h1, h2, h3⟩ := hq
      exact ⟨b :: a :: r, .swap _ _ _, by simp [h1, h2, h3]⟩
  | trans _ _ ih1 ih2 =>
    intro l hq
    obtain ⟨m2, h3, h4⟩ := ih2 hq
    obtain ⟨m1, h1, h2⟩ := ih1 h4.symm
    exact ⟨m1, h1.trans h3, h2⟩
theorem All2.zipL {α β : Type} {R : α → β → Prop} {as : List α} {bs : List β} (x : All2 R as bs) : ∀ z ∈ as.zip bs, R z.1 z.2 := by
  induction x with
  | nil => intro z h; simp at h
  | cons h _ ih =>
    intro z hz
    rw [List.zip_cons_cons] at hz
    rcases List.mem_cons.mp hz with rfl | hz
    · exact h
    · exact ih z hz
theorem zip_keys {ys : List Value} : ∀ {ps : List (Int × Int)}, ys.length = ps.length → (ps.map (·.1)).zip ys = (ys.zip ps).map fun z => (z.2.1, z.1) := by
  induction ys with
  | nil => intro ps h; simp
  | cons y r ih =>
    intro ps h
    cases ps with
    | nil => simp at h
    | cons p t =>
      rw [List.map_cons, List.zip_cons_cons, List.zip_cons_cons, List.map_cons, ih (by simpa using h)]
section
variable {w : World} {G : Heap} {L : Addr} {d : Nat} {P N : Led} {m : Vars} {env : Env} {Q : Value → Led → Led → Vars → Prop}
structure Kw1 (w : World) (G : Heap) (L : Addr) (d : Nat) (id : String) (nm : Str) (e ve : Sem Value) (Q : Value → Led → Led → Vars → Prop) (f : Value) (P N : Led) (m : Vars) : Prop where
  hf : f = .builtin id
  k : W w G L d e P N m (Kt2 w G L d ve (fun v u => call (.builtin id) [v] [(nm, u)]) Q)
theorem W_CallNameKw1 {x nm : Str} {id : String} {p kp pos : Pos} {e ve : Expr} (k : W w G L d (eval (.Name x p) env) P N m (Kw1 w G L d id nm (eval e env) (eval ve env) Q))
    (he : backTo pos (starEach [e] env) = (false, eval e env) :: backTo pos (starEach [] env) := by rfl) (he' : starEach [e] env = (false, eval e env) :: starEach [] env := by rfl) (hplain : (backTo pos (starEach [e] env)).any (·.1) = false := by rfl) :
    W w G L d (eval (.Call (.Name x p) [e] [⟨some nm, ve, kp⟩] pos) env) P N m Q := by
  show W w G L d (do callWith pos (← eval (.Name x p) env) [] (backTo pos (starEach [e] env)) (backToKw pos (keywordEach [⟨some nm, ve, kp⟩] env))) P N m Q
  refine W_bind (k.mono fun f P' N' m' ⟨hf, k2⟩ => ?_)
  subst hf
  refine W.mk fun A s R S => ?_
  refine callWith_kw ?_ he hplain
  have x : W w G L d (spliced (backTo pos (starEach [e] env))) P' N' m' fun vs P N m => ∃ v, vs = [v] ∧ W w G L d (eval ve env) P N m fun u P N m => W w G L d (call (.builtin id) [v] [(nm, u)]) P N m Q :=
    W_argsCons (k2.mono fun v _ _ _ y => W_argsNil ⟨v, rfl, y⟩) he'
  refine x.go R S fun vs h1 t1 P1 N1 m1 S1 ⟨v, e1, y⟩ => ?_
  subst e1
  refine kws_cons (y.go (s := { s with heap := h1, toks := t1 }) R S1 fun u h2 t2 P2 N2 m2 S2 z => kws_nil ?_)
  exact W.at z R S2
/-- the pair of a value, to be read -/
noncomputable def PairRd (G : Heap) (P N : Led) (v : Value) (p : Int × Int) : Prop := ∃ t, v = .ref t ∧ Rd G P N t (tupI [p.1, p.2])
/-- sorted(pairs, key=first) -/
theorem W_sortedKey {l : Addr} {ys : List Value} {ps : List (Int × Int)} (hl : Rd G P N l (lst ys)) (hp : All2 (PairRd G P N) ys ps) (h64 : ys.length < 64)
    (hf : ∀ t a b, Fn w d (.ref 35) [.ref t] [] (fun G => Has G t (tupI [a, b])) (fun _ v _ _ => ∃ u, v = .int a u))
    (q : ∀ r (zs : List (Value × (Int × Int))), zs.Perm (ys.zip ps) → (zs.map (·.2)).Pairwise (fun x y => x.1 ≤ y.1) → Q (.ref r) P ((r, lst (zs.map (·.1))) :: N) m) : W w G L (d + 2) (call (.builtin "sorted") [.ref l] [(("key" : Str), .ref 35)]) P N m Q := W.mk fun A s R S => by
  have hlen := All2.length hp
  refine ksk_sorted (kz := ps.map (·.1)) (b := false) S.fr S.news (S.rd hl).isList (by rw [List.length_map]; exact hlen.symm) h64 (ksk_s1 _ _) (fun x => by unfold argsOk; kernel_rfl) (fun x => ksk_t1 35 x) (fun i v k hv hk h tk own F' N' => ?_) fun D h' tk out c F' N' l1 ko => ?_
  · obtain ⟨⟨a, b⟩, hpi, t, rfl, ht⟩ := All2.getL hp i v hv
    rw [List.getElem?_map, hpi] at hk
    obtain rfl : a = k := Option.some.inj hk
    have S' : St w G L P N m h := S.back F' N' fun p hp => List.mem_append_left _ hp
    have R' : Room d A.in1.in1 := ⟨R.handled, by have := R.depth; show A.depth + d < _; omega, by have := R.units; show A.units + 1 + 1 + 10 * d + 200 < _; omega⟩
    refine wpAny_call (codeAny_mono (hf t a b A.in1.in1 { s with heap := h, toks := tk } R' S'.base' (S'.rd ht) (fun _ h => nomatch h) List.nodup_nil) fun r s' z => ?_)
    rcases r with e | (v | _ | _ | v)
    all_goals try exact z.elim
    obtain ⟨h2, tk2, N2, e, k1, k2, k3, u, e2⟩ := z
    subst e2
    exact ⟨h2, tk2, u, e, rfl, ⟨let ⟨o, es, ep, ho, r⟩ := F'.ns; ⟨o, es, ep, k1 _ _ ho, r⟩, fun b o e => k1 _ _ (F'.keep b o e), F'.above⟩, fun p hp => ⟨k1 _ _ (N' p hp).1, (N' p hp).2⟩⟩
  · obtain ⟨ps', hperm, hout, hsort⟩ := ko
    rw [zip_keys hlen] at hperm
    obtain ⟨zs, hz1, hz2⟩ := perm_lift hperm rfl
    have hall : ∀ z ∈ zs, PairRd G P N z.1 z.2 := fun z hz => All2.zipL hp z (hz1.mem_iff.mp hz)
    have hout' : out.toList = zs.map (·.1) := by rw [hout, hz2, List.map_map]; rfl
    have S1 : St w G L P N m h' := S.back F' (fun p hp => N' p (.tail _ hp)) fun p hp => hp
    have hD : s.heap.get? D = none := by
      cases q : s.heap.get? D with
      | none => rfl
      | some o =>
        by_cases e : D = L
        · exact absurd e (N' _ (.head _)).2.1
        · exact absurd (l1 _ (allO_mem q e)) (Nat.lt_irrefl _)
    refine Done.here (tk := tk) (St.addN (p := lst (zs.map (·.1))) S1 ⟨_, (N' _ (.head _)).1, c, ?_⟩ (S.fresh hD)) (q D zs hz1 ?_)
    · rw [← hout']; unfold seqObj lobj; rw [Array.toArray_toList]
    · rw [hz2] at hsort
      rw [List.pairwise_map] at hsort ⊢
      exact hsort.imp fun h => by simpa using h
end
end Nt
end
section
open PySem PySem.W PyProof.Rows PySem.Calls
set_option maxRecDepth 100000
set_option autoImplicit false
set_option linter.unusedVariables false
namespace Nt
section
variable {w : World} {G : Heap} {L : Addr} {d : Nat} {P N : Led} {m : Vars} {env : Env} {Q : Value → Led → Led → Vars → Prop} {QM : Value × List Value → Led → Led → Vars → Prop}
inductive NegPost (Q : Value → Led → Led → Vars → Prop) (v : Value) (P N : Led) (m : Vars) : Prop
  | mk (a : Int) (t : Tok) (e : v = .int a t) (q : ∀ u, Q (.int (-a) u) P N m)
theorem W_neg {e : Expr} {pos : Pos} (x : W w G L d (eval e env) P N m (NegPost Q)) : W w G L d (eval (.UnaryOp .USub e pos) env) P N m Q := by
  rw [arm_eval_UnaryOp]
  refine W_bind (x.mono fun v P' N' m' ⟨a, t, hv, q⟩ => ?_)
  subst hv
  exact W_bind (W_standAt (W_holding <| W.mk fun A s R S => neg_int (Done.here S (q _))))
theorem W_max {a b : Int} {t u : Tok} (q : ∀ z, Q (.int (max a b) z) P N m) : W w G L d (call (.builtin "max") [.int a t, .int b u]) P N m Q := W.mk fun A s R S =>
  max_two_ints R.handled fun h' tk k => by
    have S' := S.grow k
    by_cases h : b > a
    · rw [if_pos h]
      have := q u
      rw [Int.max_eq_right (by omega)] at this
      exact Done.here (tk := tk) S' this
    · rw [if_neg h]
      have := q t
      rw [Int.max_eq_left (by omega)] at this
      exact Done.here (tk := tk) S' this
theorem W_static {C p : Addr} {f mc obj : Value} {name : Str} {rest : List Value} {pl : Sem Bool} (hg : specialIn (KK w) (.ref C) "__getattribute__" = some (some (.builtin "type.__getattribute__"))) (hr : readsIn (KK w) C mc = true)
    (e : findCls (KK w) (.ref C) mc name = some (.get (.builtin "staticmethod.__get__") (.ref p) obj (.ref C))) (hp : recIn (KK w) p "staticmethod" = some (f :: rest)) (hh : handedIn f = true) (q : QM (f, []) P N m) : W w G L d (getMethod (.ref C) name pl) P N m QM := W.mk fun A s R S => by
  have hX := S.base'.inK
  refine method_cls hX hg (cls_bind hX hr e (wpAny_call (codeAny_mono (sm_get (R := fun r s' => r = .ok (.ret f) ∧ s' = { s with toks := s.toks + 1 }) (s := { s with toks := s.toks + 1 }) hX hp ⟨rfl, rfl⟩) fun r s' z => ?_)))
  obtain ⟨rfl, rfl⟩ := z
  exact handed_on hh (Done.here (tk := s.toks + 1) S q)
theorem W_of {pl : Sem Bool} (q : QM (.ref 76, []) P N m) : W w G L d (getMethod (.ref 150) "of" pl) P N m QM := W_static (p := 78) (mc := .type "type") (f := .ref 76) rfl rfl rfl rfl rfl q
end
end Nt
end
section
open PySem PySem.W PyProof.Rows PySem.Calls
set_option maxRecDepth 100000
set_option autoImplicit false
set_option linter.unusedVariables false
namespace Nt
theorem first_of_spec {w : World} {t : Addr} {a b : Int} : Fn w 3 (.ref 35) [.ref t] [] (fun G => Has G t (tupI [a, b])) (fun _ v _ _ => ∃ u, v = .int a u) := by
  refine Fn.of_body (names := ["pair"]) (m₀ := [("pair", some (.ref t))]) rfl rfl (fun _ _ => .of_eq rfl) rfl rfl rfl ?_
  intro G L B ⟨o, ho, vs, hi, hv⟩
  refine W.letE ?_
  intro en0 Qf0
  obtain ⟨u, hu⟩ := hi.get 0 a rfl
  refine W_cons (W_Return (W_Subscript (W_local rfl (W_int fun t1 => W_itemT (.inr (.inr ⟨_, ho, hv⟩)) (by decide) (by decide) (j := 0) (by rw [hi.length]; rfl) hu ?_))))
  exact fun h S => ⟨_, S, Ends.nil, u, rfl⟩
noncomputable def stepB (acc : List Int) (p : Int × Int) : List Int := if acc ≠ [] ∧ p.1 ≤ acc.getLastD 0 then acc.dropLast ++ [max (acc.getLastD 0) (p.2 + 1)] else acc ++ [p.1, p.2 + 1]
theorem foldB_len (ps : List (Int × Int)) : ∀ acc, (ps.foldl stepB acc).length ≤ acc.length + 2 * ps.length := by
  induction ps with
  | nil => intro acc; simp
  | cons p t ih =>
    intro acc
    have h := ih (stepB acc p)
    have : (stepB acc p).length ≤ acc.length + 2 := by
      unfold stepB
      split
      · simp; omega
      · simp
    rw [List.foldl_cons, List.length_cons]
    omega
inductive I23_1 (z : Int) (ns : List Int) (vs : List Value) : Prop
  | mk (us : List Value) (t : Tok) (hh1 : vs = us ++ [.int z t]) (hh2 : IntsAre us ns)
theorem ints_snoc {z : Int} : ∀ {ns : List Int} {vs : List Value}, IntsAre vs (ns ++ [z]) → (I23_1 z ns vs)
  | [], _, .cons _ t .nil => ⟨[], t, rfl, .nil⟩
  | _ :: _, _, .cons n t h => let ⟨us, t2, e, h2⟩ := ints_snoc h; ⟨.int n t :: us, t2, by rw [e]; rfl, .cons n t h2⟩
noncomputable def GoodPair (p : Int × Int) : Bool := decide (p.1 ≤ p.2)
inductive I23_2 (ps : List (Int × Int)) (v : Value) (N' : Led) : Prop
  | mk (r : Addr) (qs : List (Int × Int)) (hh1 : v = .ref r) (hh2 : qs.Perm (ps.filter GoodPair)) (hh3 : qs.Pairwise (fun x y => x.1 ≤ y.1)) (hh4 : N' = [(r, lstI (qs.foldl stepB []))])
inductive I23_3 (rg : Addr) (ps : List (Int × Int)) (r : Addr) (N : Led) (m : Vars) : Prop
  | mk (qs : List (Int × Int)) (N0 : Led) (a : Option Value) (b : Option Value) (hh1 : qs.Perm (ps.filter GoodPair)) (hh2 : qs.Pairwise (fun x y => x.1 ≤ y.1)) (hh3 : N = (r, lstI (qs.foldl stepB [])) :: N0) (hh4 : m = ([("ranges", some (.ref rg)), ("found", some (.ref r)), ("first", a), ("last", b)] : Vars))
inductive I23_4 (rg : Addr) (r : Addr) (ws : List (Value × Int × Int)) (i : Nat) (N : Led) (m : Vars) : Prop
  | mk (a : Option Value) (b : Option Value) (hh1 : N = [(r, lstI (((ws.map (·.2)).take i).foldl stepB []))]) (hh2 : m = ([("ranges", some (.ref rg)), ("found", some (.ref r)), ("first", a), ("last", b)] : Vars))
inductive I23_5 (acc : List Int) : Prop
  | mk (ac : List Int) (z : Int) (hh1 : acc = ac ++ [z])
theorem range_bounds_spec {w : World} {rg : Addr} {ys : List Value} {ps : List (Int × Int)} {H : Heap} (hrg : Has H rg (lst ys)) (hp : All2 (fun v p => ∃ t, v = .ref t ∧ Has H t (tupI [p.1, p.2])) ys ps) (h64 : ys.length < 64) :
    Fn w 8 (.ref 40) [.ref rg] [] (fun G => Le H G) (fun _ v N' _ => (I23_2 ps v N')) := by
  refine Fn.of_body (names := ["ranges", "found", "first", "last"]) (m₀ := [("ranges", some (.ref rg)), ("found", none), ("first", none), ("last", none)]) rfl rfl (fun _ _ => .of_eq rfl) rfl rfl rfl ?_
  intro G L B hG
  refine W.letE ?_
  intro en0 Qf0
  have rd : ∀ {P N : Led} {a : Addr} {p : OP}, Has H a p → Rd G P N a p := fun h => .inr (.inr (h.keeps hG))
  refine W_cons (W_AssignName (W_List (W_argsNil (W_newList (by rw [sizeLine_eq]; simp) fun r => W_store ?_))))
  refine W.clsI .head .nil ?_
  refine W_cut (fun P N m => (I23_3 rg ps r N m)) ?_ ?_
  · refine W_ForG (W.post (W_CallNameKw1 (W_builtin rfl rfl ⟨rfl, ?_⟩)))
    refine W_ListCompG ?_
    refine W_local rfl ⟨ys.length, _, fun i zs N => N = [(r, lstI [])] ∧ ∃ qs, All2 (fun v p => ∃ t, v = .ref t ∧ Has H t (tupI [p.1, p.2])) zs qs ∧ qs = (ps.take i).filter GoodPair, by rw [sizeLine_eq]; omega, rfl, .list (.inr (hrg.keeps hG)), ⟨rfl, [], .nil, rfl⟩, ?_, ?_⟩
    · rintro G' le C i v zs N hi hv ⟨rfl, qs, hz, hq⟩ hlen
      obtain ⟨⟨a, b⟩, hpi, t, rfl, o, ho, vs, hvi, hvt⟩ := All2.getL hp i v hv
      obtain ⟨ua, hua⟩ := hvi.get 0 a rfl
      obtain ⟨ub, hub⟩ := hvi.get 1 b rfl
      have rt : ∀ {P N : Led}, Rd G' P N t (tup vs) := .inr (.inr ⟨_, le _ _ (hG _ _ ho), hvt⟩)
      refine W_tests1 (W_isTrueCompare (W_Subscript (W_local rfl (W_int fun t1 => W_itemT rt (by decide) (by decide) (j := 0) (by rw [hvi.length]; rfl) hua ?_))))
      refine W_Subscript (W_local rfl (W_int fun t2 => W_itemT rt (by decide) (by decide) (j := 1) (by rw [hvi.length]; rfl) hub (W_leI (W_truthyBool ⟨fun h1 => ?_, fun h1 => ?_⟩))))
      · have h1 := of_decide_eq_true h1
        refine W_local rfl ⟨fun _ h => h, rfl, rfl, qs ++ [(a, b)], All2.app hz (.cons ⟨t, rfl, o, ho, vs, hvi, hvt⟩ .nil), ?_⟩
        rw [filter_take_succ _ hpi, if_pos (by unfold GoodPair; exact decide_eq_true h1), hq]
      · have h1 := of_decide_eq_false h1
        refine ⟨fun _ h => h, rfl, rfl, qs, hz, ?_⟩
        rw [filter_take_succ _ hpi, if_neg (by unfold GoodPair; simpa using h1), hq, List.append_nil]
    · rintro zs N l ⟨rfl, qs, hz, hq⟩ hlen
      have hpl := All2.length hp
      rw [hpl, List.take_length] at hq
      subst hq
      refine W_global (v := .ref 35) rfl ?_
      refine W_sortedKey (d := 5) (.inl (.head _)) (All2.mono (fun v p ⟨t, e, ht⟩ => ⟨t, e, rd ht⟩) hz) (by have := All2.length hz; omega) (fun t a b => first_of_spec.le (by decide)) fun r2 ws hw1 hw2 => ?_
      refine fun h S => ⟨_, _, _, S.freeze.freeze, (ws.map (·.1)).length, _, fun i N m => (I23_4 rg r ws i N m), .list (.inl (.tail _ (.head _))), ⟨none, none, rfl, rfl⟩, ?_, ?_⟩
      · rintro G2 le2 i v N2 m2 hi hv ⟨a0, b0, rfl, rfl⟩
        rw [List.getElem?_map] at hv
        obtain ⟨⟨v', p1, p2⟩, hwi, e⟩ := Option.map_eq_some_iff.mp hv
        subst e
        obtain ⟨t, e, ht⟩ := All2.zipL hz _ (hw1.mem_iff.mp (List.mem_of_getElem? hwi))
        dsimp only at e ht
        subst e
        have hst : ((ws.map (·.2)).take (i + 1)).foldl stepB [] = stepB (((ws.map (·.2)).take i).foldl stepB []) (p1, p2) := by
          rw [List.take_add_one, List.getElem?_map, hwi, List.foldl_append]; rfl
        have hal : (((ws.map (·.2)).take i).foldl stepB []).length ≤ 1000 := by
          have h1 := foldB_len ((ws.map (·.2)).take i) []
          have h2 : ws.length = (zs.zip ((ps.filter GoodPair))).length := hw1.length_eq
          rw [List.length_zip] at h2
          rw [List.length_take, List.length_map] at h1
          simp only [List.length_nil] at h1
          omega
        generalize hacc : ((ws.map (·.2)).take i).foldl stepB [] = acc at hst hal ⊢
        refine W_assignPair (.inr (.inr (ht.keeps fun b o e => le2 _ _ (hG _ _ e)))) fun ta tb => W_ordCons (W_assignName (W_store (W_ordCons (W_assignName (W_store (W_ordNil (ts := []) ?_))))))
        refine W_cons (W_If (W_isTrueAnd (W_andCons (W_isTrueCompare (W_local rfl (W_List (W_argsNil (W_newList (by rw [sizeLine_eq]; simp) fun e1 => ?_))))))))
        refine W.clsI .head .nil (W_neLL (.inl (.tail _ (.head _))) (.inl (.head _)) (W_truthyBool ⟨fun hne => ?_, fun hne => ?_⟩))
        · obtain ⟨ac, z, rfl⟩ : (I23_5 acc) := by
            have : acc ≠ [] := by simpa using hne
            exact ⟨acc.dropLast, acc.getLast this, (List.dropLast_concat_getLast this).symm⟩
          have hlast : (ac ++ [z]).getLastD 0 = z := by simp
          have hdl : (ac ++ [z]).dropLast = ac := by simp
          refine W.opnI (.tail _ (.head _)) (fun vs => .tail .head) fun vs hvs => ?_
          obtain ⟨us, tz, rfl, hus⟩ := ints_snoc hvs
          have hul := hus.length
          have hsz : us.length ≤ 1000 := by simp at hal; omega
          have hlook : (us ++ [Value.int z tz])[(-1 + ((us ++ [Value.int z tz]).length : Int)).toNat]? = some (.int z tz) := by
            have : (-1 + ((us ++ [Value.int z tz]).length : Int)).toNat = us.length := by simp; omega
            rw [this]; simp
          refine W_andCons (W_isTrueCompare (W_local rfl (W_Subscript (W_local rfl (W_neg (W_int fun t1 => ⟨_, _, rfl, fun t2 => W_itemLneg (.inl (.tail _ (.head _))) (by decide) (by simp; omega) (by decide) hlook (W_leI (W_truthyBool ⟨fun hc => ?_, fun hc => ?_⟩))⟩))))))
          · refine W_andNil ⟨fun _ => ?_, fun e => (nomatch e)⟩
            refine W_cons (W_AssignSub (W_CallName (W_builtin rfl rfl (W_callWithB (W_argsCons (W_Subscript (W_local rfl (W_neg (W_int fun t3 => ⟨_, _, rfl, fun t4 => W_itemLneg (.inl (.tail _ (.head _))) (by decide) (by simp; omega) (by decide) hlook ?_⟩)))))))))
            refine W_argsCons (W_BinOp (W_local rfl (W_int fun t5 => W_add fun t6 => W_argsNil (W_max fun t7 => ?_))))
            refine W_local rfl (W_neg (W_int fun t8 => ⟨_, _, rfl, fun t9 => ?_⟩))
            refine W_setLast (by omega) (.tail .head) ?_
            refine W.st (fun h S => S.dropN) (x := W.clsI .head (hus.append (.cons _ _ .nil)) (W_nil (W_nil ⟨fun _ h => h, _, _, ?_, rfl⟩)))
            rw [hst]; unfold stepB; rw [if_pos ⟨by simp, by rw [hlast]; exact of_decide_eq_true hc⟩, hlast, hdl]
          · refine ⟨fun e => (nomatch e), fun _ => ?_⟩
            refine W_cons (W_Expr (W_CallMeth (W_local rfl (W_mL PySem.F.slot_list_extend (.inl (.tail _ (.head _))) (W_callWithB (W_argsCons (W_List (W_argsCons (W_local rfl (W_argsCons (W_BinOp (W_local rfl (W_int fun t5 => W_add fun t6 => W_argsNil (W_newList (by rw [sizeLine_eq]; simp) fun l3 => W_argsNil ?_))))))))))))))
            refine W_extendL (.tail (.tail .head)) (.inl (.head _)) (by simp; omega) ?_
            refine W.st (fun h S => S.dropN.dropN) (x := W.clsI .head (hvs.append (.cons _ _ (.cons _ _ .nil))) (W_nil (W_nil ⟨fun _ h => h, _, _, ?_, rfl⟩)))
            rw [hst]; unfold stepB; rw [if_neg ?_]
            rw [hlast]
            have := of_decide_eq_false hc
            exact fun h => this h.2
        · refine ⟨fun e => (nomatch e), fun _ => ?_⟩
          obtain rfl : acc = [] := by simpa using hne
          refine W.opnI (.tail _ (.head _)) (fun vs => .tail .head) fun vs hvs => ?_
          have hvl := hvs.length
          refine W_cons (W_Expr (W_CallMeth (W_local rfl (W_mL PySem.F.slot_list_extend (.inl (.tail _ (.head _))) (W_callWithB (W_argsCons (W_List (W_argsCons (W_local rfl (W_argsCons (W_BinOp (W_local rfl (W_int fun t5 => W_add fun t6 => W_argsNil (W_newList (by rw [sizeLine_eq]; simp) fun l3 => W_argsNil ?_))))))))))))))
          refine W_extendL (.tail (.tail .head)) (.inl (.head _)) (by simp; omega) ?_
          refine W.st (fun h S => S.dropN.dropN) (x := W.clsI .head (hvs.append (.cons _ _ (.cons _ _ .nil))) (W_nil (W_nil ⟨fun _ h => h, _, _, ?_, rfl⟩)))
          rw [hst]; unfold stepB; rw [if_neg ?_]
          exact fun h => h.1 rfl
      · rintro N2 m2 ⟨a0, b0, rfl, rfl⟩
        refine ⟨ws.map (·.2), [], a0, b0, ?_, hw2, ?_, rfl⟩
        · have h1 : ((zs.zip (ps.filter GoodPair)).map (·.2)) = ps.filter GoodPair := by
            rw [List.map_snd_zip]; rw [All2.length hz]; exact Nat.le_refl _
          have h2 := hw1.map (·.2)
          rw [h1] at h2
          exact h2
        · rw [List.length_map, ← List.length_map (f := fun x : Value × Int × Int => x.2) (as := ws), List.take_length]
  · rintro P N m ⟨qs, N0, a, b, hq1, hq2, rfl, rfl⟩
    exact W_cons (W_Return (W_local rfl fun h S => ⟨[(r, lstI (qs.foldl stepB []))], (S.subP (P' := []) (fun _ h => (nomatch h))).subN (.cons_cons _ (List.nil_sublist _)), Ends.nil, r, qs, rfl, hq1, hq2, rfl⟩))
end Nt
end
section
open PySem PySem.W PyProof.Rows PySem.Calls
set_option maxRecDepth 100000
set_option autoImplicit false
set_option linter.unusedVariables false
namespace Nt
theorem PL.has {ps : List (Int × Int)} {vs : List Value} {T : Led} {H : Heap} (x : PL ps vs T) (h : ∀ t p, (t, p) ∈ T → Has H t p) : All2 (fun v p => ∃ t, v = .ref t ∧ Has H t (tupI [p.1, p.2])) vs ps :=
  All2.mono (fun v p ⟨t, e, m⟩ => ⟨t, e, h _ _ m⟩) x
noncomputable def CsLed (x dx b : Addr) (bs : List Int) : Led := [(x, ins 150 dx), (dx, att 900 [("bounds", some (.ref b))]), (b, lstI bs)]
inductive I24_1 (ps : List (Int × Int)) (v : Value) (N' : Led) : Prop
  | mk (x : Addr) (dx : Addr) (b : Addr) (qs : List (Int × Int)) (hh1 : v = .ref x) (hh2 : qs.Perm (ps.filter GoodPair)) (hh3 : qs.Pairwise (fun x y => x.1 ≤ y.1)) (hh4 : N' = CsLed x dx b (qs.foldl stepB []))
theorem cs_of_spec {w : World} {rg : Addr} {ys : List Value} {ps : List (Int × Int)} {H : Heap} (hrg : Has H rg (lst ys)) (hp : All2 (fun v p => ∃ t, v = .ref t ∧ Has H t (tupI [p.1, p.2])) ys ps) (h64 : ys.length < 64) :
    Fn w 9 (.ref 76) [.ref rg] [] (fun G => Le H G) (fun _ v N' _ => (I24_1 ps v N')) := by
  refine Fn.of_body (names := ["ranges"]) (m₀ := [("ranges", some (.ref rg))]) rfl rfl (fun _ _ => .of_eq rfl) rfl rfl rfl ?_
  intro G L B hG
  refine W.letE ?_
  intro en0 Qf0
  refine W_cons (W_Return (W_CallName (W_global (v := .ref 150) rfl (W_callWithF rfl (W_argsCons (W_CallName (W_global (v := .ref 40) rfl (W_callWithF rfl (W_argsCons (W_local rfl (W_argsNil ?_)))))))))))
  refine W_callE (N0 := []) ((range_bounds_spec hrg hp h64).le (by decide)) (fun g S b o e => S _ _ (hG _ _ e)) fun v N' g h' ⟨b, qs, e, hq1, hq2, e2⟩ => ?_
  subst e e2
  refine W_argsNil (W_new (cls_CodeSet w) rfl rfl (fun x dx => cs_init_spec.le (by decide)) (fun x dx g S => (S.ps _ (.head _)).1) fun x dx N' v g h' hxG hxP S1 k S2 _ ⟨e, e2⟩ => ⟨e, ?_⟩)
  subst e2
  refine ⟨_, _, _, (S2.thaw hxG hxP).cls (N' := CsLed x dx b (qs.foldl stepB [])) (.tail .head) (fun o ⟨es, ep, a, b, c, d⟩ => ⟨es, ep, a, b, c, by omega⟩), fun h S => ⟨_, S, Ends.nil, x, dx, b, qs, rfl, hq1, hq2, rfl⟩⟩
inductive I24_2 (cs : List Int) (v : Value) (N' : Led) : Prop
  | mk (x : Addr) (dx : Addr) (b : Addr) (qs : List (Int × Int)) (hh1 : v = .ref x) (hh2 : qs.Perm (cs.map fun c => (c, c))) (hh3 : qs.Pairwise (fun x y => x.1 ≤ y.1)) (hh4 : N' = CsLed x dx b (qs.foldl stepB []))
theorem range_set_of_spec {w : World} {rg : Addr} {cs : List Int} {H : Heap} (hrg : Has H rg (lstI cs)) (h64 : cs.length < 64) :
    Fn w 10 (.ref 159) [.ref rg] [] (fun G => Le H G) (fun _ v N' _ => (I24_2 cs v N')) := by
  refine Fn.of_body (names := ["codes"]) (m₀ := [("codes", some (.ref rg))]) rfl rfl (fun _ _ => .of_eq rfl) rfl rfl rfl ?_
  intro G L B hG
  refine W.letE ?_
  intro en0 Qf0
  obtain ⟨o, ho, vs, hvi, hvl⟩ := hrg
  have hlen := hvi.length
  refine W_cons (W_Return (W_CallMeth (W_global (v := .ref 150) rfl (W_of (W_callWithF rfl (W_argsCons (W_ListCompG ?_)))))))
  refine W_local rfl ⟨vs.length, _, fun i ys N => PL ((cs.take i).map fun c => (c, c)) ys N, by rw [sizeLine_eq]; omega, rfl, .list (.inr ⟨o, hG _ _ ho, hvl⟩), .nil, ?_, ?_⟩
  · rintro G' le C i v ys N hi hv hys hlen2
    obtain ⟨n, hn⟩ : ∃ n, cs[i]? = some n := ⟨_, List.getElem?_eq_getElem (by omega)⟩
    obtain ⟨u, hu⟩ := hvi.get _ _ hn
    rw [hv] at hu
    obtain rfl := Option.some.inj hu
    refine W_tests0 ⟨fun _ => W.post ?_, fun e => (nomatch e)⟩
    refine W_Tuple (W_argsCons (W_local rfl (W_argsCons (W_local rfl (W_argsNil (W_newTupleN (by rw [sizeLine_eq]; simp) fun q => ?_))))))
    refine fun h S => ⟨_, _, _, S.nimp (p' := tupI [n, n]) fun o y => ⟨_, .cons _ _ (.cons _ _ .nil), y⟩, fun _ h => h, rfl, ?_⟩
    show PL ((cs.take (i + 1)).map fun c => (c, c)) (ys ++ [.ref q]) ((q, tupI [n, n]) :: N)
    rw [List.take_add_one, hn, List.map_append]
    exact PL.add hys
  · rintro ys N r2 hys hlen2
    rw [hlen, List.take_length] at hys
    refine W_argsNil (W.st (fun h S => St.freezeAll (R := N) (N := []) (by rw [List.append_nil]; exact S.freeze)) (x := W.rebase fun G' le B' hin => ?_))
    refine W_callE (N0 := []) (N := []) ((cs_of_spec (hin _ (List.mem_append_right _ (.head _))) (PL.has hys fun t p ht => hin (t, p) (List.mem_append_left _ (List.mem_reverse.mpr ht))) (by omega)).le (by decide)) (fun g S => S) fun v N' g h' ⟨x, dx, b, qs, e, hq1, hq2, e2⟩ => ?_
    subst e e2
    refine fun h S => ⟨_, (S.subP (P' := []) (fun _ h => (nomatch h))).subN (List.sublist_append_left ..), Ends.nil, x, dx, b, qs, rfl, ?_, hq2, rfl⟩
    have : (cs.map fun c => (c, c)).filter GoodPair = cs.map fun c => (c, c) := by
      rw [List.filter_eq_self]
      intro p hp
      obtain ⟨c, _, rfl⟩ := List.mem_map.mp hp
      simp [GoodPair]
    rw [this] at hq1
    exact hq1
end Nt
end
section
open PySem PySem.W PyProof.Rows PySem.Calls
set_option maxRecDepth 100000
set_option autoImplicit false
set_option linter.unusedVariables false
namespace Nt
noncomputable def touch (bounds g : List Int) : List (Int × Int) := if g.any (hasS bounds) then g.map fun c => (c, c) else []
theorem touch_perm {b x y : List Int} (h : x.Perm y) : (touch b x).Perm (touch b y) := by
  unfold touch
  have e : x.any (hasS b) = y.any (hasS b) := by
    rw [Bool.eq_iff_iff, List.any_eq_true, List.any_eq_true]
    exact ⟨fun ⟨a, m, q⟩ => ⟨a, h.mem_iff.mp m, q⟩, fun ⟨a, m, q⟩ => ⟨a, h.mem_iff.mpr m, q⟩⟩
  rw [e]
  split
  · exact h.map _
  · exact .refl _
theorem flatMap_take_len {α β : Type} (g : α → List β) : ∀ (l : List α) (i : Nat), ((l.take i).flatMap g).length ≤ (l.flatMap g).length
  | [], i => by simp
  | a :: t, 0 => by simp
  | a :: t, i + 1 => by
    have := flatMap_take_len g t i
    rw [List.take_succ_cons, List.flatMap_cons, List.flatMap_cons, List.length_append, List.length_append]
    omega
noncomputable def closedA (f : Int → Option Row) (turk : Bool) (D1 : FD) (bounds k : List Int) : List (Int × Int) := touch bounds (alike0 f turk D1 (k.headD 0))
noncomputable def closedB (D2 : FD) (bounds k : List Int) : List (Int × Int) := touch bounds ((D2.lookup k).getD [])
noncomputable def closedPairs (f : Int → Option Row) (turk : Bool) (D1 D2 : FD) (bn : List (Int × Int)) : List (Int × Int) :=
  runs bn ++ (D1.map (·.1)).flatMap (closedA f turk D1 (flat bn)) ++ (D2.map (·.1)).flatMap (closedB D2 (flat bn))
inductive I25_1 (turk : Bool) (f : Int → Option Row) (D1 : FD) (D2 : FD) (bn : List (Int × Int)) (v : Value) (N' : Led) : Prop
  | mk (y : Addr) (dy : Addr) (b : Addr) (qs : List (Int × Int)) (hh1 : v = .ref y) (hh2 : qs.Perm ((closedPairs f turk D1 D2 bn).filter GoodPair)) (hh3 : qs.Pairwise (fun x y => x.1 ≤ y.1)) (hh4 : N' = CsLed y dy b (qs.foldl stepB []))
inductive I25_2 (x : Addr) (cx : Addr) (bn : List (Int × Int)) (r : Addr) (N : Led) (m : Vars) : Prop
  | mk (vs : List Value) (T : Led) (a : Option Value) (b : Option Value) (hh1 : N = (r, lst vs) :: T) (hh2 : PL (runs bn) vs T) (hh3 : m = ([("self", some (.ref x)), ("codes", some (.ref cx)), ("found", some (.ref r)), ("first", a), ("last", b), ("goal", none), ("group", none), ("one", none)] : Vars))
inductive I25_3 (x : Addr) (cx : Addr) (bn : List (Int × Int)) (r : Addr) (i : Nat) (N : Led) (m : Vars) : Prop
  | mk (vs : List Value) (T : Led) (a : Option Value) (b : Option Value) (hh1 : N = (r, lst vs) :: T) (hh2 : PL ((runs bn).take i) vs T) (hh3 : m = ([("self", some (.ref x)), ("codes", some (.ref cx)), ("found", some (.ref r)), ("first", a), ("last", b), ("goal", none), ("group", none), ("one", none)] : Vars))
inductive I25_4 (x : Addr) (cx : Addr) (turk : Bool) (f : Int → Option Row) (D1 : FD) (bn : List (Int × Int)) (r : Addr) (N : Led) (m : Vars) : Prop
  | mk (vs : List Value) (T : Led) (ps2 : List (Int × Int)) (a : Option Value) (b : Option Value) (g : Option Value) (gr : Option Value) (on : Option Value) (hh1 : N = (r, lst vs) :: T) (hh2 : PL (runs bn ++ ps2) vs T) (hh3 : ps2.Perm ((D1.map (·.1)).flatMap (closedA f turk D1 (flat bn)))) (hh4 : m = ([("self", some (.ref x)), ("codes", some (.ref cx)), ("found", some (.ref r)), ("first", a), ("last", b), ("goal", g), ("group", gr), ("one", on)] : Vars))
inductive I25_5 (x : Addr) (cx : Addr) (turk : Bool) (f : Int → Option Row) (D1 : FD) (bn : List (Int × Int)) (r : Addr) (a : Option Value) (b : Option Value) (zs : List (List Int × Addr × Value)) (i : Nat) (N : Led) (m : Vars) : Prop
  | mk (vs : List Value) (T : Led) (ps2 : List (Int × Int)) (g : Option Value) (gr : Option Value) (on : Option Value) (hh1 : N = (r, lst vs) :: T) (hh2 : PL (runs bn ++ ps2) vs T) (hh3 : ps2.Perm (((zs.map (·.1)).take i).flatMap (closedA f turk D1 (flat bn)))) (hh4 : m = ([("self", some (.ref x)), ("codes", some (.ref cx)), ("found", some (.ref r)), ("first", a), ("last", b), ("goal", g), ("group", gr), ("one", on)] : Vars))
inductive I25_6 (k : List Int) : Prop
  | mk (c : Int) (kt : List Int) (hh1 : k = c :: kt)
inductive I25_7 (x : Addr) (cx : Addr) (bn : List (Int × Int)) (r : Addr) (a : Option Value) (b : Option Value) (ps2 : List (Int × Int)) (ka : Addr) (ga : Addr) (ns : List Int) (j : Nat) (N : Led) (m : Vars) : Prop
  | mk (vs : List Value) (T : Led) (on : Option Value) (hh1 : N = (r, lst vs) :: T) (hh2 : PL (runs bn ++ (ps2 ++ (ns.take j).map fun c => (c, c))) vs T) (hh3 : m = ([("self", some (.ref x)), ("codes", some (.ref cx)), ("found", some (.ref r)), ("first", a), ("last", b), ("goal", some (.ref ka)), ("group", some (.ref ga)), ("one", on)] : Vars))
inductive I25_8 (x : Addr) (cx : Addr) (D2 : FD) (bn : List (Int × Int)) (r : Addr) (ps2 : List (Int × Int)) (N : Led) (m : Vars) : Prop
  | mk (vs : List Value) (T : Led) (ps3 : List (Int × Int)) (a : Option Value) (b : Option Value) (g : Option Value) (gr : Option Value) (on : Option Value) (hh1 : N = (r, lst vs) :: T) (hh2 : PL (runs bn ++ ps2 ++ ps3) vs T) (hh3 : ps3.Perm ((D2.map (·.1)).flatMap (closedB D2 (flat bn)))) (hh4 : m = ([("self", some (.ref x)), ("codes", some (.ref cx)), ("found", some (.ref r)), ("first", a), ("last", b), ("goal", g), ("group", gr), ("one", on)] : Vars))
inductive I25_9 (x : Addr) (cx : Addr) (D2 : FD) (bn : List (Int × Int)) (r : Addr) (ps2 : List (Int × Int)) (a : Option Value) (b : Option Value) (zs : List (List Int × Addr × Value)) (i : Nat) (N : Led) (m : Vars) : Prop
  | mk (vs : List Value) (T : Led) (ps3 : List (Int × Int)) (g : Option Value) (gr : Option Value) (on : Option Value) (hh1 : N = (r, lst vs) :: T) (hh2 : PL (runs bn ++ ps2 ++ ps3) vs T) (hh3 : ps3.Perm (((zs.map (·.1)).take i).flatMap (closedB D2 (flat bn)))) (hh4 : m = ([("self", some (.ref x)), ("codes", some (.ref cx)), ("found", some (.ref r)), ("first", a), ("last", b), ("goal", g), ("group", gr), ("one", on)] : Vars))
inductive I25_10 (x : Addr) (cx : Addr) (bn : List (Int × Int)) (r : Addr) (ps2 : List (Int × Int)) (a : Option Value) (b : Option Value) (ps3 : List (Int × Int)) (ka : Addr) (ga : Addr) (ns : List Int) (j : Nat) (N : Led) (m : Vars) : Prop
  | mk (vs : List Value) (T : Led) (on : Option Value) (hh1 : N = (r, lst vs) :: T) (hh2 : PL (runs bn ++ ps2 ++ (ps3 ++ (ns.take j).map fun c => (c, c))) vs T) (hh3 : m = ([("self", some (.ref x)), ("codes", some (.ref cx)), ("found", some (.ref r)), ("first", a), ("last", b), ("goal", some (.ref ka)), ("group", some (.ref ga)), ("one", on)] : Vars))
theorem fi_closed_spec {w : World} {x cx : Addr} {turk : Bool} {f : Int → Option Row} {D1 D2 : FD} {bn : List (Int × Int)} {H : Heap} (hH : FiAt w H x turk f D1 D2) (hC : CsAt H cx (flat bn)) (hsh : Short f) (hne : ∀ ss c, foldS f ss c ≠ []) (hb : (flat bn).Pairwise (· ≤ ·)) (hbl : bn.length ≤ 400)
    (h1 : ∀ k cs, D1.lookup k = some cs → cs.length ≤ 20) (h2 : ∀ k cs, D2.lookup k = some cs → cs.length ≤ 20) (hk1 : ∀ k ∈ D1.map (·.1), k ≠ [] ∧ 0 ≤ k.headD 0) (hk2 : ∀ k ∈ D2.map (·.1), k ≠ []) (hl1 : D1.length < 64) (hl2 : D2.length < 64) (h64 : (closedPairs f turk D1 D2 bn).length < 64) :
    Fn w 12 (.ref 337) [.ref x, .ref cx] [] (fun G => Le H G) (fun _ v N' _ => (I25_1 turk f D1 D2 bn v N')) := by
  refine Fn.of_body (names := ["self", "codes", "found", "first", "last", "goal", "group", "one"]) (m₀ := [("self", some (.ref x)), ("codes", some (.ref cx)), ("found", none), ("first", none), ("last", none), ("goal", none), ("group", none), ("one", none)]) rfl rfl (fun _ _ => .of_eq rfl) rfl rfl rfl ?_
  intro G L B hG
  refine W.letE ?_
  intro en0 Qf0
  obtain ⟨dx, dd, sm, fl, d1, d2, D, hDa, ⟨es1, hes1, hd1, hee1⟩, es2, hes2, hd2, hee2⟩ := id hH
  have rd : ∀ {P N : Led} {a : Addr} {p : OP}, Has H a p → Rd G P N a p := fun h => .inr (.inr (h.keeps hG))
  refine W_cons (W_AssignName (W_List (W_argsNil (W_newList (by rw [sizeLine_eq]; simp) fun r => W_store ?_))))
  refine W_cut (fun P N m => (I25_2 x cx bn r N m)) ?_ ?_
  · obtain ⟨cdx, cb, hC1, hC2, _⟩ := id hC
    refine W_ForG (W.post (W_CallMeth (W_local rfl (W_getMeth (cls_CodeSet w) (rd hC1) (rd hC2) rfl rfl rfl (W_callWithF0 rfl ?_)))))
    refine W_call (N0 := []) ((cs_ranges_spec hC (by omega)).le (by decide)) (fun g S b o e => S.keep _ _ (hG _ _ e)) fun v N' g h' S1 k S2 _ ⟨q, ys, T, e, e2, hpl⟩ => ?_
    subst e e2
    have hyl : ys.length = bn.length := (All2.length hpl).trans (by unfold runs; simp)
    refine ⟨_, _, _, S2, fun h S => ⟨_, _, _, St.freezeAll (R := T) S.freeze, ys.length, _, fun i N m => (I25_3 x cx bn r i N m), .list (.inl (List.mem_append_right _ (.head _))), ⟨[], [], none, none, rfl, .nil, rfl⟩, ?_, ?_⟩⟩
    · rintro G' le i v N m hi hv ⟨vs, T2, a, b, rfl, hT2, rfl⟩
      obtain ⟨⟨p1, p2⟩, hrun, t, rfl, hm⟩ := All2.getL hpl i v hv
      refine W_assignPair (.inr (.inl (List.mem_append_left _ (List.mem_reverse.mpr hm)))) fun ta tb => W_ordCons (W_assignName (W_store (W_ordCons (W_assignName (W_store (W_ordNil (ts := []) ?_))))))
      have hvl := All2.length hT2
      rw [List.length_take] at hvl
      have hvl2 : vs.length ≤ bn.length := by unfold runs at hvl; simp at hvl; omega
      refine W_cons (W_Expr (W_CallMeth (W_local rfl (W_mL PySem.F.slot_list_append (.inl (.head _)) (W_callWithB (W_argsCons (W_Tuple (W_argsCons (W_local rfl (W_argsCons (W_local rfl (W_argsNil (W_newTupleN (by rw [sizeLine_eq]; simp) fun q => W_argsNil ?_)))))))))))))
      refine W_append (.tail .head) (by rw [sizeLine_eq]; omega) ?_
      refine W.st (fun h S => (S.nimp (p' := tupI [p1, p2]) fun o y => ⟨_, .cons _ _ (.cons _ _ .nil), y⟩).perm (.swap ..)) (x := W_nil ⟨fun _ h => h, _, (q, tupI [p1, p2]) :: T2, _, _, rfl, ?_, rfl⟩)
      rw [List.take_add_one, hrun]
      exact PL.add hT2
    · rintro N m ⟨vs, T2, a, b, rfl, hT2, rfl⟩
      rw [hyl, show bn.length = (runs bn).length by unfold runs; simp, List.take_length] at hT2
      exact ⟨vs, T2, a, b, rfl, hT2, rfl⟩
  · rintro P N m ⟨vs, T, a, b, rfl, hp, rfl⟩
    refine W_cut (fun P N m => (I25_4 x cx turk f D1 bn r N m)) ?_ ?_
    · refine W_ForG (W.post (W_CallName (W_builtin rfl rfl (W_callWithB (W_argsCons (W_Attr (W_local rfl (W_getAttr (cls_FoldIndex w) (rd D.hx) (rd D.hd) rfl (W_argsNil ?_) rfl rfl))))))))
      have hk : ∀ y ∈ teX es1, Has H y.2.1 (tupI y.1) ∧ y.1 ∈ D1.map (·.1) := fun y hy => by
        obtain ⟨e, he, rfl⟩ := List.mem_map.mp hy
        exact ⟨(hee1 e he).1, by rw [← hes1, fg_keys]; exact List.mem_map_of_mem he⟩
      refine W_sortedTD (rd hd1) D.n1 (fun y hy => rd (hk y hy).1) (fun y hy => (hk1 _ (hk y hy).2).1) (by unfold teX; rw [List.length_map, ← fg_len, hes1]; exact hl1) fun r2 ws hw => ?_
      obtain ⟨zs, hz, rfl⟩ := perm_lift hw rfl
      refine fun h S => ⟨_, _, _, S.freeze, (zs.map fun y => Value.ref y.2.1).length, _, fun i N m => (I25_5 x cx turk f D1 bn r a b zs i N m), .list (.inl (.head _)), ⟨vs, T, [], none, none, none, rfl, by rw [List.append_nil]; exact hp, .nil, rfl⟩, ?_, ?_⟩
      · rintro G' le i v N m hi hv ⟨vs, T, ps2, g, gr, on, rfl, hp, hpp, rfl⟩
        rw [List.getElem?_map] at hv
        obtain ⟨⟨k, ka, la⟩, hzi, rfl⟩ := Option.map_eq_some_iff.mp hv
        obtain ⟨hka, hkm⟩ := hk _ (hz.mem_iff.mp (List.mem_of_getElem? hzi))
        obtain ⟨hkne, hk0⟩ := hk1 _ hkm
        dsimp only at hka hkm hkne hk0 ⊢
        obtain ⟨c, kt, rfl⟩ : (I25_6 k) := by
          cases k with
          | nil => exact absurd rfl hkne
          | cons c kt => exact ⟨c, kt, rfl⟩
        have rd' : ∀ {P N : Led} {a : Addr} {p : OP}, Has H a p → Rd G' P N a p := fun h => .inr (.inr ((h.keeps hG).keeps le))
        obtain ⟨o, ho, kvs, hki, hkt⟩ := hka
        obtain ⟨tc, hc⟩ := hki.get 0 c rfl
        refine W_assignName (W_store ?_)
        refine W_cons (W_AssignName (W_CallMeth (W_local rfl (W_getMeth (cls_FoldIndex w) (rd' D.hx) (rd' D.hd) rfl rfl rfl (W_callWithF rfl (W_argsCons (W_Subscript (W_local rfl (W_int fun t1 => W_itemT (rd' ⟨_, ho, hkt⟩) (by decide) (by decide) (j := 0) (by rw [hki.length, List.length_cons]; simp [seqIndex?]) hc ?_)))))))))
        refine W_argsNil (W_call (N0 := []) ((fi_alike_spec hH hsh hne hk0 h1).le (by decide)) (fun g S b o e => S.keep _ _ (le _ _ (hG _ _ e))) fun v N' g2 h' S1 k2 S2 _ ⟨ga, ns, e, hns, hsrt, e2⟩ => ?_)
        subst e e2
        refine ⟨_, _, _, S2, W_store ?_⟩
        refine W_cons (W_If (W_isTrueCall (W_CallName (W_global (v := .ref 351) rfl (W_callWithF rfl (W_argsCons (W_local rfl (W_argsCons (W_local rfl (W_argsNil ?_))))))))))
        refine W_call0 ((fold_any_spec hC hb (by rw [flat_length]; omega)).le (by decide)) (fun g S => ⟨fun b o e => S.keep _ _ (le _ _ (hG _ _ e)), (S.nw _ (.head _)).1⟩) fun v F g3 h3 S3 k3 S4 e => ?_
        subst e
        have hA : ((zs.map (·.1)).take (i + 1)).flatMap (closedA f turk D1 (flat bn)) = ((zs.map (·.1)).take i).flatMap (closedA f turk D1 (flat bn)) ++ closedA f turk D1 (flat bn) (c :: kt) := by
          rw [List.take_add_one, List.getElem?_map, hzi, List.flatMap_append]; simp
        have hcl : (touch (flat bn) ns).Perm (closedA f turk D1 (flat bn) (c :: kt)) := touch_perm hns
        refine ⟨_, _, _, S4, W_truthyBool ⟨fun ht => ?_, fun ht => ?_⟩⟩
        · unfold touch at hcl
          rw [if_pos ht] at hcl
          refine W.opnI (.head _) (fun us => .head) fun us hus => ?_
          have hul := hus.length
          have hbd : (runs bn).length + (ps2.length + ns.length) < 64 := by
            have e1 := flatMap_take_len (closedA f turk D1 (flat bn)) (zs.map (·.1)) (i + 1)
            have e2 := ((hz.map (·.1)).flatMap_right (closedA f turk D1 (flat bn))).length_eq
            rw [teX_keys, ← fg_keys, hes1] at e2
            have e3 := hpp.length_eq
            have e4 := hcl.length_eq
            rw [hA, List.length_append] at e1
            rw [List.length_map] at e4
            unfold closedPairs at h64
            rw [List.length_append, List.length_append] at h64
            omega
          refine W_cons (W_ForG (W.post (W_local rfl fun h S => ⟨_, _, _, S.freeze, us.length, _, fun j N m => (I25_7 x cx bn r a b ps2 ka ga ns j N m), .list (.inl (.head _)), ⟨vs, T, on, rfl, by simpa using hp, rfl⟩, ?_, ?_⟩)))
          · rintro G2 le2 j v N m hj hv ⟨vs, T, on, rfl, hp, rfl⟩
            obtain ⟨o, t0, hnj, rfl⟩ := IntsAre.getV hus hv
            have hvl := All2.length hp
            refine W_assignName (W_store ?_)
            refine W_cons (W_Expr (W_CallMeth (W_local rfl (W_mL PySem.F.slot_list_append (.inl (.head _)) (W_callWithB (W_argsCons (W_Tuple (W_argsCons (W_local rfl (W_argsCons (W_local rfl (W_argsNil (W_newTupleN (by rw [sizeLine_eq]; simp) fun q => W_argsNil ?_)))))))))))))
            refine W_append (.tail .head) (by rw [sizeLine_eq, hvl]; simp only [List.length_append, List.length_map, List.length_take]; omega) ?_
            refine W.st (fun h S => (S.nimp (p' := tupI [o, o]) fun _ y => ⟨_, .cons _ _ (.cons _ _ .nil), y⟩).perm (.swap ..)) (x := W_nil ⟨fun _ h => h, _, (q, tupI [o, o]) :: T, _, rfl, ?_, rfl⟩)
            rw [List.take_add_one, hnj, List.map_append, ← List.append_assoc, ← List.append_assoc, List.append_assoc (runs bn)]
            exact PL.add hp
          · rintro N m ⟨vs, T, on, rfl, hp, rfl⟩
            rw [hul, List.take_length] at hp
            refine W_nil (W_nil ⟨fun p h => .tail _ h, vs, T, _, _, _, _, rfl, hp, ?_, rfl⟩)
            rw [hA]
            exact hpp.append hcl
        · unfold touch at hcl
          rw [if_neg (by rw [ht]; decide)] at hcl
          refine W.st (fun h S => S.dropN) (x := W_nil (W_nil ⟨fun _ h => h, _, _, ps2, _, _, _, rfl, hp, ?_, rfl⟩))
          rw [hA, ← List.append_nil ps2]
          exact hpp.append hcl
      · rintro N m ⟨vs, T, ps2, g, gr, on, rfl, hp, hpp, rfl⟩
        refine ⟨vs, T, ps2, _, _, g, gr, on, rfl, hp, hpp.trans ?_, rfl⟩
        rw [List.length_map, ← List.length_map (f := fun y : List Int × Addr × Value => y.1) (as := zs), List.take_length]
        have := (hz.map (·.1)).flatMap_right (closedA f turk D1 (flat bn))
        rw [teX_keys, ← fg_keys, hes1] at this
        exact this
    · rintro P N m ⟨vs, T, ps2, a, b, g, gr, on, rfl, hp, hpp, rfl⟩
      refine W_cut (fun P N m => (I25_8 x cx D2 bn r ps2 N m)) ?_ ?_
      · refine W_ForG (W.post (W_CallName (W_builtin rfl rfl (W_callWithB (W_argsCons (W_Attr (W_local rfl (W_getAttr (cls_FoldIndex w) (rd D.hx) (rd D.hd) rfl (W_argsNil ?_) rfl rfl))))))))
        have hk : ∀ y ∈ teX es2, Has H y.2.1 (tupI y.1) ∧ y.1 ∈ D2.map (·.1) := fun y hy => by
          obtain ⟨e, he, rfl⟩ := List.mem_map.mp hy
          exact ⟨(hee2 e he).1, by rw [← hes2, fg_keys]; exact List.mem_map_of_mem he⟩
        refine W_sortedTD (rd hd2) D.n2 (fun y hy => rd (hk y hy).1) (fun y hy => hk2 _ (hk y hy).2) (by unfold teX; rw [List.length_map, ← fg_len, hes2]; exact hl2) fun r2 ws hw => ?_
        obtain ⟨zs, hz, rfl⟩ := perm_lift hw rfl
        refine fun h S => ⟨_, _, _, S.freeze, (zs.map fun y => Value.ref y.2.1).length, _, fun i N m => (I25_9 x cx D2 bn r ps2 a b zs i N m), .list (.inl (.head _)), ⟨vs, T, [], _, _, _, rfl, by rw [List.append_nil]; exact hp, .nil, rfl⟩, ?_, ?_⟩
        · rintro G' le i v N m hi hv ⟨vs, T, ps3, g, gr, on, rfl, hp, hpp3, rfl⟩
          rw [List.getElem?_map] at hv
          obtain ⟨⟨k, ka, la⟩, hzi, rfl⟩ := Option.map_eq_some_iff.mp hv
          obtain ⟨hka, hkm⟩ := hk _ (hz.mem_iff.mp (List.mem_of_getElem? hzi))
          dsimp only at hka hkm ⊢
          have rd' : ∀ {P N : Led} {a : Addr} {p : OP}, Has H a p → Rd G' P N a p := fun h => .inr (.inr ((h.keeps hG).keeps le))
          refine W_assignName (W_store ?_)
          refine W_cons (W_AssignName (W_CallMeth (W_local rfl (W_getMeth (cls_FoldIndex w) (rd' D.hx) (rd' D.hd) rfl rfl rfl (W_callWithF rfl (W_argsCons (W_local rfl ?_)))))))
          refine W_argsNil (W_call (N0 := []) ((fi_unfolded_spec hH h2).le (by decide)) (fun g S => ⟨fun b o e => S.keep _ _ (le _ _ (hG _ _ e)), ((hka.keeps hG).keeps le).keeps S.keep⟩) fun v N' g2 h' S1 k2 S2 _ ⟨ga, ns, e, hns, hsrt, e2⟩ => ?_)
          subst e e2
          refine ⟨_, _, _, S2, W_store ?_⟩
          refine W_cons (W_If (W_isTrueCall (W_CallName (W_global (v := .ref 351) rfl (W_callWithF rfl (W_argsCons (W_local rfl (W_argsCons (W_local rfl (W_argsNil ?_))))))))))
          refine W_call0 ((fold_any_spec hC hb (by rw [flat_length]; omega)).le (by decide)) (fun g S => ⟨fun b o e => S.keep _ _ (le _ _ (hG _ _ e)), (S.nw _ (.head _)).1⟩) fun v F g3 h3 S3 k3 S4 e => ?_
          subst e
          have hA : ((zs.map (·.1)).take (i + 1)).flatMap (closedB D2 (flat bn)) = ((zs.map (·.1)).take i).flatMap (closedB D2 (flat bn)) ++ closedB D2 (flat bn) k := by
            rw [List.take_add_one, List.getElem?_map, hzi, List.flatMap_append]; simp
          have hcl : (touch (flat bn) ns).Perm (closedB D2 (flat bn) k) := touch_perm hns
          refine ⟨_, _, _, S4, W_truthyBool ⟨fun ht => ?_, fun ht => ?_⟩⟩
          · unfold touch at hcl
            rw [if_pos ht] at hcl
            refine W.opnI (.head _) (fun us => .head) fun us hus => ?_
            have hul := hus.length
            have hbd : (runs bn).length + (ps2.length + (ps3.length + ns.length)) < 64 := by
              have e1 := flatMap_take_len (closedB D2 (flat bn)) (zs.map (·.1)) (i + 1)
              have e2 := ((hz.map (·.1)).flatMap_right (closedB D2 (flat bn))).length_eq
              rw [teX_keys, ← fg_keys, hes2] at e2
              have e3 := hpp3.length_eq
              have e4 := hcl.length_eq
              have e5 := hpp.length_eq
              rw [hA, List.length_append] at e1
              rw [List.length_map] at e4
              unfold closedPairs at h64
              rw [List.length_append, List.length_append] at h64
              omega
            refine W_cons (W_ForG (W.post (W_local rfl fun h S => ⟨_, _, _, S.freeze, us.length, _, fun j N m => (I25_10 x cx bn r ps2 a b ps3 ka ga ns j N m), .list (.inl (.head _)), ⟨vs, T, on, rfl, by simpa using hp, rfl⟩, ?_, ?_⟩)))
            · rintro G2 le2 j v N m hj hv ⟨vs, T, on, rfl, hp, rfl⟩
              obtain ⟨o, t0, hnj, rfl⟩ := IntsAre.getV hus hv
              have hvl := All2.length hp
              refine W_assignName (W_store ?_)
              refine W_cons (W_Expr (W_CallMeth (W_local rfl (W_mL PySem.F.slot_list_append (.inl (.head _)) (W_callWithB (W_argsCons (W_Tuple (W_argsCons (W_local rfl (W_argsCons (W_local rfl (W_argsNil (W_newTupleN (by rw [sizeLine_eq]; simp) fun q => W_argsNil ?_)))))))))))))
              refine W_append (.tail .head) (by rw [sizeLine_eq, hvl]; simp only [List.length_append, List.length_map, List.length_take]; omega) ?_
              refine W.st (fun h S => (S.nimp (p' := tupI [o, o]) fun _ y => ⟨_, .cons _ _ (.cons _ _ .nil), y⟩).perm (.swap ..)) (x := W_nil ⟨fun _ h => h, _, (q, tupI [o, o]) :: T, _, rfl, ?_, rfl⟩)
              rw [List.take_add_one, hnj, List.map_append, ← List.append_assoc ps3, ← List.append_assoc]
              exact PL.add hp
            · rintro N m ⟨vs, T, on, rfl, hp, rfl⟩
              rw [hul, List.take_length] at hp
              refine W_nil (W_nil ⟨fun p h => .tail _ h, vs, T, _, _, _, _, rfl, hp, ?_, rfl⟩)
              rw [hA]
              exact hpp3.append hcl
          · unfold touch at hcl
            rw [if_neg (by rw [ht]; decide)] at hcl
            refine W.st (fun h S => S.dropN) (x := W_nil (W_nil ⟨fun _ h => h, _, _, ps3, _, _, _, rfl, hp, ?_, rfl⟩))
            rw [hA, ← List.append_nil ps3]
            exact hpp3.append hcl
        · rintro N m ⟨vs, T, ps3, g, gr, on, rfl, hp, hpp3, rfl⟩
          refine ⟨vs, T, ps3, _, _, g, gr, on, rfl, hp, hpp3.trans ?_, rfl⟩
          rw [List.length_map, ← List.length_map (f := fun y : List Int × Addr × Value => y.1) (as := zs), List.take_length]
          have := (hz.map (·.1)).flatMap_right (closedB D2 (flat bn))
          rw [teX_keys, ← fg_keys, hes2] at this
          exact this
      · rintro P N m ⟨vs, T, ps3, a, b, g, gr, on, rfl, hp, hpp3, rfl⟩
        have hfin : (runs bn ++ ps2 ++ ps3).Perm (closedPairs f turk D1 D2 bn) := ((List.Perm.refl _).append hpp).append hpp3
        have hvl := (All2.length hp).trans hfin.length_eq
        refine W_cons (W_Return (W_CallMeth (W_global (v := .ref 150) rfl (W_of (W_callWithF rfl (W_argsCons (W_local rfl (W_argsNil ?_))))))))
        refine W.st (fun h S => St.freezeAll (N := []) (by rw [List.append_nil]; exact S.freeze)) (x := W.rebase fun G' le B' hin => ?_)
        refine W_callE (N0 := []) (N := []) ((cs_of_spec (hin _ (List.mem_append_right _ (.head _))) (PL.has hp fun t p ht => hin (t, p) (List.mem_append_left _ (List.mem_reverse.mpr ht))) (by omega)).le (by decide)) (fun g S => S) fun v N' g h' ⟨x, dx, b, qs, e, hq1, hq2, e2⟩ => ?_
        subst e e2
        exact fun h S => ⟨_, (S.subP (P' := []) (fun _ h => (nomatch h))).subN (List.sublist_append_left ..), Ends.nil, x, dx, b, qs, rfl, hq1.trans (hfin.filter _), hq2, rfl⟩
end Nt
end
section
open PySem PySem.W PyProof.Rows PySem.Calls
set_option maxRecDepth 100000
set_option autoImplicit false
set_option linter.unusedVariables false
namespace Nt
section
variable {w : World} {G : Heap} {L : Addr} {d : Nat} {P N : Led} {m : Vars} {env : Env}
noncomputable def EltPostC (P1 : Led) (c : Addr) (v : Value) (K : Value → Led → Prop) : Value → Led → Led → Vars → Prop := fun y P N m => (∀ p ∈ P1, p ∈ P) ∧ m = [] ∧ ∃ N0, N = (c, cellp (some v)) :: N0 ∧ K y N0
noncomputable def TestPostC (w : World) (G' : Heap) (C : Addr) (d : Nat) (elt : Expr) (cenv : Env) (P1 : Led) (c : Addr) (v : Value) (K : Value → Led → Prop) (no : Led → Prop) : Bool → Led → Led → Vars → Prop := fun ok P N m =>
  (ok = true → W w G' C d (eval elt cenv) P N m (EltPostC P1 c v K)) ∧ (ok = false → (∀ p ∈ P1, p ∈ P) ∧ m = [] ∧ ∃ N0, N = (c, cellp (some v)) :: N0 ∧ no N0)
theorem newEnvCell {M : Model} {A : Around} {E : Value → Shared → Prop} {s : Shared} {scope : Scope} {globals builtins : Addr} {cl : List (Str × Addr)} {qual : Str} {code : Value} {x : Str} {Q : Env → Shared → Prop}
    (hcf : ∀ n, cellsFrom n scope.names cl = (x, n) :: cl) (hpc : ∀ h, pushCells h scope.names = h.push { cls := .type "cell", data := .cell none })
    (hQ : Q (newEnv scope s.heap.objs.size globals ((x, s.heap.objs.size + 1) :: cl) qual none code (some env) builtins) { s with heap := (s.heap.push { cls := .type "dict", data := .dict #[] }).push { cls := .type "cell", data := .cell none } }) :
    wpAny M A (newFunctionEnv scope globals cl [] qual none code (some env) builtins) Q E s := by
  simp only [newFunctionEnv, Option.isSome_some, if_true]
  refine wpAny_bind (wpAny_alloc ?_)
  refine wpAny_bind (wpAny_layCells _ (fun name kind cells => by cases hkc : kind == NameKind.cell <;> simp [hkc]) _ _ _ _ ?_)
  rw [List.forIn_nil]
  refine wpAny_bind (wpAny_pure (wpAny_pure ?_))
  rw [hcf, hpc, show ({ s with heap := s.heap.push { cls := .type "dict", data := .dict #[] } } : Shared).heap.objs.size = s.heap.objs.size + 1 from Heap.size_push ..]
  exact hQ
inductive CompPostC (w : World) (G : Heap) (d : Nat) (elt : Expr) (ifs : List Expr) (cenv : Addr → Addr → Env) (QR : Addr → List Value → Led → Led → Prop) (m : Vars) (v : Value) (P1 N' : Led) (m' : Vars) : Prop
  | mk (n : Nat) (item : Nat → Value → Prop) (Inv : Nat → List Value → Led → Prop) (hn : n ≤ sizeLine) (hm : m' = m) (src : Src w G P1 v n item) (start : Inv 0 [] N')
    (turn : ∀ G', Le G G' → ∀ C c i v ys N, i < n → item i v → Inv i ys N → ys.length ≤ i → W w G' C d (tests ifs (cenv C c)) P1 ((c, cellp (some v)) :: N) [] (TestPostC w G' C d elt (cenv C c) P1 c v (fun y N => Inv (i + 1) (ys ++ [y]) N) (Inv (i + 1) ys)))
    (done : ∀ ys N r, Inv n ys N → ys.length ≤ n → QR r ys P1 N)
theorem W_AssignCompC {elt iter : Expr} {x y₀ : Str} {px py : Pos} {spos : Pos} {QF : Flow → Led → Led → Vars → Prop} {ifs : List Expr} {scope : Scope} {pos : Pos} {cl : List (Str × Addr)}
    (hiter : W w G L d (eval iter env) P N m (CompPostC w G d elt ifs (fun C c => compEnvC scope ((x, c) :: cl) C env) (fun r ys P1 N => QF .next P1 ((r, lst ys) :: N) (stv m y₀ (.ref r))) m))
    (hsw : swapsWith (.ListComp elt [⟨.Name x px, iter, ifs, 0⟩] scope pos) (some (.Name y₀ py)) spos.line env = pure true := by rfl)
    (hy : env.kindOf y₀ = some .local := by rfl) (hyk : env.scope.kind = .function := by rfl) (hyL : env.locals = L := by rfl)
    (hclos : closureFor scope env = pure cl := by rfl) (hs : ∀ x, foldedSetIterable iter env x = pure x := by intro _; rfl) (hkind : scope.kind = .function := by rfl)
    (hnames : ∀ x ∈ scope.names, x.2 = .local → scope.names.lookup x.1 = some .local := by decide) (hcf : ∀ n, cellsFrom n scope.names cl = (x, n) :: cl := by intro _; rfl) (hpc : ∀ h, pushCells h scope.names = h.push { cls := .type "cell", data := .cell none } := by intro _; rfl) (hx : ∀ C c, (compEnvC scope ((x, c) :: cl) C env).kindOf x = some .cell := by intro _ _; rfl) :
    W w G L d (exec (.Assign [.Name y₀ py] (.ListComp elt [⟨.Name x px, iter, ifs, 0⟩] scope pos) spos) env) P N m QF := by
  refine W.mk fun A s R S => ?_
  rw [exec_Assign_Name_used _ _ _ _ hsw]
  refine wpAny_bind (wpAny_standAt (wpAny_bind ?_))
  show wpAny _ A (do let _ ← comprehension (.ListComp elt [⟨.Name x px, iter, ifs, 0⟩] scope pos) scope env _ (newList []) false (eval iter env) (some (assign (.Name y₀ py) env))) _ _ s
  refine wpAny_bind (wpAny_mono (wpAny_comprehension_free (cl := cl) (use := some (assign (.Name y₀ py) env)) (Q := fun _ s' => Done w G L s QF .next s') rfl hs hclos hkind hnames ?_) (fun _ s' hq => wpAny_pure (wpAny_pure hq)) fun _ _ e => e)
  show wpAny _ A (eval iter env) _ _ s
  refine hiter.go R S fun v h1 t1 P1' N1 m1 S1 y => ?_
  obtain ⟨n, item, Inv, hn, rfl, ysrc, y0, turn, done⟩ := y
  refine ysrc A _ L N1 m1 _ R.handled S1 fun I h' fp wr Sw W h0 hle hfp hgo hwr hlive => ?_
  have hG : ∀ b ∈ wr, G.get? b = none := fun b hb => none_of_keep S1.keep (hwr b hb)
  have hP : ∀ b ∈ wr, ∀ p ∈ P1', p.1 ≠ b := fun b hb p hp e => by
    obtain ⟨o, ho, _⟩ := (S1.ps p hp).1
    rw [e, hwr b hb] at ho; cases ho
  have S1' := S1.grow hle
  refine wpAny_newObj_type ?_ (by show ([] : List Value).toArray.size ≤ sizeLine; simp)
  have hDf := S1'.fresh (get_size_none h')
  generalize hD : h'.objs.size = D at hDf
  have hDn : h'.get? D = none := by rw [← hD]; exact get_size_none _
  have hd1 : Has (h'.push { cls := .type "list", data := .seq ([] : List Value).toArray }) D (lst []) := by rw [← hD]; exact ⟨_, Heap.get?_push_size _ rfl, _, rfl⟩
  have S2 : St w G L P1' N1 m1 (h'.push { cls := .type "list", data := .seq ([] : List Value).toArray }) := S1'.grow fun _ _ e => Heap.get?_push_of_some _ e
  have hle2 : Le h' (h'.push { cls := .type "list", data := .seq ([] : List Value).toArray }) := fun _ _ e => Heap.get?_push_of_some _ e
  generalize h'.push { cls := .type "list", data := .seq ([] : List Value).toArray } = h2 at hd1 S2 hle2
  refine newEnvCell hcf hpc ?_
  have hCf := S2.fresh (get_size_none h2)
  generalize hC : h2.objs.size = C at hCf ⊢
  have hCn : h2.get? C = none := by rw [← hC]; exact get_size_none _
  have hns0 : (h2.push { cls := .type "dict", data := .dict #[] }).Ns C (lk []) := hC ▸ Heap.Ns.new h2 (.type "dict")
  have hsz3 : (h2.push { cls := .type "dict", data := .dict #[] }).objs.size = C + 1 := by rw [Heap.size_push, hC]
  have S2b : St w G L P1' N1 m1 (h2.push { cls := .type "dict", data := .dict #[] }) := S2.grow fun _ _ e => Heap.get?_push_of_some _ e
  have hle2b : Le h2 (h2.push { cls := .type "dict", data := .dict #[] }) := fun _ _ e => Heap.get?_push_of_some _ e
  generalize h2.push { cls := .type "dict", data := .dict #[] } = h2b at hns0 hsz3 S2b hle2b ⊢
  have S3 : St w G L P1' ((C + 1, cellp none) :: N1) m1 (h2b.push { cls := .type "cell", data := .cell none }) := hsz3 ▸ S2b.new (get_size_none _) (fun _ _ e => Heap.get?_push_of_some _ e) ⟨_, Heap.get?_push_size _ rfl, rfl⟩
  have hle3 : Le h2 (h2b.push { cls := .type "cell", data := .cell none }) := fun b o e => Heap.get?_push_of_some _ (hle2b b o e)
  have hns : (h2b.push { cls := .type "cell", data := .cell none }).Ns C (lk []) := hns0.keeps fun _ _ e => Heap.get?_push_of_some _ e
  generalize h2b.push { cls := .type "cell", data := .cell none } = h3 at S3 hle3 hns ⊢
  have hDC : D ≠ C := fun q => by
    obtain ⟨o, ho, _⟩ := hd1
    rw [q, hCn] at ho; cases ho
  have hD1 : D ≠ C + 1 := fun q => by
    obtain ⟨o, ho, _⟩ := hd1
    exact absurd (Heap.lt_size ho) (by rw [q, hC]; exact Nat.not_lt.mpr (Nat.le_succ _))
  -- the invariant of the loop
  let J : Nat → Shared → Prop := fun k s' => X2 fun h' tk => s' = { s with heap := h', toks := tk } ∧ X4 fun i ys N0 cv => A11 (i ≤ n) (k = n - i) (ys.length ≤ i) (St w G L P1' ((C + 1, cellp cv) :: N0) m1 h') (Inv i ys N0) (Sw i h') ((∀ b ∈ fp, b ≠ L ∧ b ∉ ((C + 1, cellp cv) :: N0).map (·.1) ∧ ∃ o, h'.get? b = some o)) (Has h' D (lst ys)) (D ∉ ((C + 1, cellp cv) :: N0).map (·.1)) (h'.Ns C (lk [])) (C ∉ ((C + 1, cellp cv) :: N0).map (·.1))
  have hfpD : ∀ b ∈ fp, b ≠ D ∧ b ≠ C := fun b hb => by
    obtain ⟨_, _, o, ho⟩ := hfp b hb
    exact ⟨fun q => by rw [q, hDn] at ho; (nomatch ho), fun q => by have := hle2 b o ho; rw [q, hCn] at this; (nomatch this)⟩
  have hwrf := W.sub
  have hC1 : ∀ b o, h2.get? b = some o → b ≠ C + 1 := fun b o e q => by
    exact absurd (Heap.lt_size e) (by rw [q, hC]; exact Nat.not_lt.mpr (Nat.le_succ _))
  have start : J n { s with heap := h3, toks := t1 } := ⟨h3, t1, rfl, 0, [], N1, none, Nat.zero_le _, rfl, Nat.le_refl _, S3, y0, W.frame _ _ _ h0 fun b hb o ho => hle3 _ _ (hle2 _ _ ho),
    fun b hb => let ⟨q1, q2, o, ho⟩ := hfp b hb; ⟨q1, fun q => (List.mem_cons.mp q).elim (hC1 b o (hle2 _ _ ho)) q2, o, hle3 _ _ (hle2 _ _ ho)⟩, hd1.keeps hle3, fun q => (List.mem_cons.mp q).elim hD1 hDf.2.1, hns, fun q => (List.mem_cons.mp q).elim (fun e => Nat.succ_ne_self _ e.symm) hCf.2.1⟩
  have loop : codeAny (model prg w) A (.compLoop (.ListComp elt [⟨.Name x px, iter, ifs, 0⟩] scope pos) 0 (.ref I) (.ref D) (compEnvC scope ((x, C + 1) :: cl) C env)) (compPost (model prg w) A Nope (some (assign (.Name y₀ py) env)) (fun _ s' => Done w G L s QF .next s') (.ref D) C) { s with heap := h3, toks := t1 } := by
    refine codeAny_compLoop_tests (I := J) (fun k s' hJ => ?_) n start
    obtain ⟨h4, t4, rfl, i, ys, N0, cv, hin, rfl, hys, S4, inv, hsw, hf4, hd4, hd4n, hns4, hc4n⟩ := hJ
    generalize hN4 : (C + 1, cellp cv) :: N0 = N4 at S4 hf4 hd4n hc4n
    have hf4' : ∀ b ∈ fp, b ≠ L ∧ b ∉ N4.map (·.1) := fun b hb => ⟨(hf4 b hb).1, (hf4 b hb).2.1⟩
    by_cases hi : i < n
    · refine W.item i _ _ _ hi hsw fun v h5 t5 hv hst hk => ?_
      have S5 : St w G L P1' N4 m1 h5 := S4.iter W.sub hf4' hG hP hk
      have hf5 : ∀ b ∈ fp, ∃ o, h5.get? b = some o := fun b hb => by
        by_cases q : b ∈ wr
        · exact hlive _ _ hst b q
        · obtain ⟨_, _, o, ho⟩ := hf4 b hb
          exact ⟨o, hk b o q ho⟩
      have hd5 : Has h5 D (lst ys) := let ⟨o, ho, r⟩ := hd4; ⟨o, hk _ _ (fun q => (hfpD _ (hwrf _ q)).1 rfl) ho, r⟩
      have hns5 : h5.Ns C (lk []) := let ⟨o, es, ep, ho, r⟩ := hns4; ⟨o, es, ep, hk _ _ (fun q => (hfpD _ (hwrf _ q)).2 rfl) ho, r⟩
      -- the store of the target
      have hkl : (compEnvC scope ((x, C + 1) :: cl) C env).scope.kind = .function := hkind
      show wpAny _ A (do standAt px; bindName (compEnvC scope ((x, C + 1) :: cl) C env) x v) _ _ _
      refine wpAny_bind (wpAny_standAt ?_)
      unfold bindName
      refine wpAny_bind (wpAny_holding (wpAny_point (wpAny_bind ?_)))
      subst hN4
      refine wpAny_storeName_cell hkl (hx C (C + 1)) (by show List.lookup x ((x, C + 1) :: cl) = _; rw [List.lookup_cons, beq_self_eq_true]) (S5.nw _ (.head _)).1 (fun h6 hn6 hs6 => wpAny_point ?_)
      have hLC : L ≠ C := fun q => hCf.1 q.symm
      have S6 : St w G L P1' ((C + 1, cellp (some v)) :: N0) m1 h6 := S5.upd .head (fun b o hb e => (hs6.2 b hb).trans e) hn6
      have hk6 : ∀ b o, b ≠ C + 1 → h5.get? b = some o → h6.get? b = some o := fun b o hb e => (hs6.2 b hb).trans e
      have hn6c : h6.Ns C (lk []) := let ⟨o, es, ep, ho, r⟩ := hns5; ⟨o, es, ep, hk6 _ _ (fun e => Nat.succ_ne_self _ e.symm) ho, r⟩
      have hf4 : ∀ b ∈ fp, b ≠ L ∧ b ∉ ((C + 1, cellp (some v)) :: N0).map (·.1) ∧ ∃ o, h4.get? b = some o := hf4
      have hf4' : ∀ b ∈ fp, b ≠ L ∧ b ∉ ((C + 1, cellp (some v)) :: N0).map (·.1) := hf4'
      have hd4n : D ∉ ((C + 1, cellp (some v)) :: N0).map (·.1) := hd4n
      have hc4n : C ∉ ((C + 1, cellp (some v)) :: N0).map (·.1) := hc4n
      generalize hN4 : (C + 1, cellp (some v)) :: N0 = N4 at S6 hf4 hf4' hd4n hc4n
      have hN1 : C + 1 ∈ N4.map (·.1) := hN4 ▸ .head _
      -- the frame of the comprehension
      let G' := hideAll h6 (C :: N4.map (·.1))
      have inG : ∀ b o, h6.get? b = some o → b ≠ C → b ∉ N4.map (·.1) → G'.get? b = some o := fun b o e q1 q2 => hideAll_get _ e fun q => (List.mem_cons.mp q).elim q1 q2
      have le : Le G G' := fun b o e => inG b o (S6.keep b o e) (fun q => by rw [q, hCf.2.2.2] at e; cases e) (fun q => by
        obtain ⟨p, hp, rfl⟩ := List.mem_map.mp q
        rw [(S6.nw p hp).2.2] at e; cases e)
      have S7 : St w G' C P1' N4 [] h6 := ⟨S6.base.keeps le, fun b o e => of_hideAll _ e, hn6c, hideAll_none _ (.head _),
        fun p hp => ⟨(S6.nw p hp).1, fun q => hc4n (q ▸ List.mem_map_of_mem hp), hideAll_none _ (.tail _ (List.mem_map_of_mem hp))⟩, S6.nd,
        fun p hp => ⟨(S6.ps p hp).1, fun q => hCf.2.2.1 (q ▸ List.mem_map_of_mem hp), (S6.ps p hp).2.2⟩⟩
      have hLG : ∃ o es ep, G'.get? L = some o ∧ o.data = .dict es ep ∧ StrKeys es ∧ ∀ name, nsFind es name = lk m1 name := by
        obtain ⟨o, es, ep, ho, r⟩ := S6.ns
        exact ⟨o, es, ep, inG _ _ ho hLC (fun q => by
          obtain ⟨p, hp, e⟩ := List.mem_map.mp q
          exact (S6.nw p hp).2.1 e), r⟩
      have hDG : Has G' D (lst ys) := by
        obtain ⟨o, ho, r⟩ := hd5
        exact ⟨o, inG _ _ (hk6 _ _ hD1 ho) hDC hd4n, r⟩
      have hfG : ∀ b ∈ fp, ∃ o, G'.get? b = some o ∧ h6.get? b = some o := fun b hb => by
        obtain ⟨o, ho⟩ := hf5 b hb
        have ho' := hk6 _ _ (fun q => (hf4' b hb).2 (by rw [q]; exact hN1)) ho
        exact ⟨o, inG b o ho' (hfpD b hb).2 (hf4' b hb).2, ho'⟩
      -- what stands again behind the turn
      have again : ∀ {h7 h8 : Heap} {P7 N8 : Led} {t8 : Nat} {ys' : List Value}, St w G' C P7 ((C + 1, cellp (some v)) :: N8) [] h7 → (∀ p ∈ P1', p ∈ P7) → Inv (i + 1) ys' N8 → ys'.length ≤ i + 1 → (∀ b o, b ≠ D → h7.get? b = some o → h8.get? b = some o) → Has h8 D (lst ys') →
          ∃ k, k < n - i ∧ J k { s with heap := h8, toks := t8 } := by
        intro h7 h8 P7 N8 t8 ys' S8 hsub inv' hlen k8 hd8
        generalize hN7 : (C + 1, cellp (some v)) :: N8 = N7 at S8
        obtain ⟨oL, esL, epL, hoL, rL⟩ := hLG
        have hDN : D ∉ N7.map (·.1) := fun q => by
          obtain ⟨p, hp, e⟩ := List.mem_map.mp q
          obtain ⟨o, ho, _⟩ := hDG
          rw [← e, (S8.nw p hp).2.2] at ho; cases ho
        have hLD : L ≠ D := fun q => hDf.1 q.symm
        refine ⟨n - (i + 1), by omega, h8, t8, rfl, i + 1, ys', N8, some v, hi, rfl, hlen, ?_, inv', ?_, fun b hb => ?_, hd8, by rw [hN7]; exact hDN, ?_, fun q => ?_⟩
        all_goals try rw [hN7]
        all_goals try rw [hN7] at q
        · refine ⟨S6.base, fun b o e => k8 _ _ (fun q => by rw [q, hDf.2.2.2] at e; cases e) (S8.keep _ _ (le _ _ e)), ⟨oL, esL, epL, k8 _ _ hLD (S8.keep _ _ hoL), rL⟩, S6.out, fun p hp => ⟨?_, fun q => ?_, none_of_keep le (S8.nw p hp).2.2⟩, S8.nd, fun p hp => ⟨?_, (S6.ps p hp).2.1, (S8.ps p (hsub p hp)).2.2⟩⟩
          · obtain ⟨o, ho, r⟩ := (S8.nw p hp).1
            exact ⟨o, k8 _ _ (fun q => hDN (q ▸ List.mem_map_of_mem hp)) ho, r⟩
          · have := (S8.nw p hp).2.2
            rw [q, hoL] at this; cases this
          · obtain ⟨o, ho, r⟩ := (S8.ps p (hsub p hp)).1
            exact ⟨o, k8 _ _ (fun q => hDf.2.2.1 (q ▸ List.mem_map_of_mem hp)) ho, r⟩
        · refine W.frame _ _ _ (W.frame _ _ _ hst fun b hb o ho => hk6 _ _ (fun q => (hf4' b hb).2 (by rw [q]; exact hN1)) ho) fun b hb o ho => ?_
          obtain ⟨o', q1, q2⟩ := hfG b hb
          rw [ho] at q2; cases q2
          exact k8 _ _ (hfpD b hb).1 (S8.keep _ _ q1)
        · obtain ⟨o', q1, q2⟩ := hfG b hb
          refine ⟨(hf4' b hb).1, fun q => ?_, o', k8 _ _ (hfpD b hb).1 (S8.keep _ _ q1)⟩
          obtain ⟨p, hp, rfl⟩ := List.mem_map.mp q
          rw [(S8.nw p hp).2.2] at q1; cases q1
        · obtain ⟨o, es, ep, ho, r⟩ := S8.ns
          exact ⟨o, es, ep, k8 _ _ (Ne.symm hDC) ho, r⟩
        · obtain ⟨p, hp, e⟩ := List.mem_map.mp q
          exact (S8.nw p hp).2.1 e
      refine (turn G' le C (C + 1) i v ys N0 hi hv inv hys).go (s := { s with heap := h6, toks := t5 }) R (hN4 ▸ S7) fun ok h7 t7 P7 N7 m7 S8 y8 => ?_
      cases ok with
      | false =>
        obtain ⟨a1, rfl, N8, rfl, a3⟩ := y8.2 rfl
        simp only [Bool.false_eq_true, if_false]
        exact again S8 a1 a3 (by omega) (fun _ _ _ e => e) (hDG.keeps S8.keep)
      | true =>
        simp only [if_true]
        refine (y8.1 rfl).go (s := { s with heap := h7, toks := t7 }) R S8 fun y h8 t8 P8 N8 m8 S9 y9 => ?_
        obtain ⟨a1, rfl, N9, rfl, a3⟩ := y9
        refine append_raw (s := { s with heap := h8, toks := t8 }) (hDG.keeps S9.keep) (fun h9 hl9 hs9 => ?_) (by omega)
        exact again S9 a1 a3 (by rw [List.length_append]; simp; omega) (fun b o hb e => (hs9.2 b hb).trans e) hl9
    · have : i = n := by omega
      subst this
      refine W.done _ _ _ hsw fun h5 t5 hk => ?_
      have S5 : St w G L P1' N4 m1 h5 := S4.iter W.sub hf4' hG hP hk
      have hd5 : Has h5 D (lst ys) := let ⟨o, ho, r⟩ := hd4; ⟨o, hk _ _ (fun q => (hfpD _ (hwrf _ q)).1 rfl) ho, r⟩
      have hns5 : h5.Ns C (lk []) := let ⟨o, es, ep, ho, r⟩ := hns4; ⟨o, es, ep, hk _ _ (fun q => (hfpD _ (hwrf _ q)).2 rfl) ho, r⟩
      have hLC : L ≠ C := fun q => hCf.1 q.symm
      have hLD : L ≠ D := fun q => hDf.1 q.symm
      subst hN4
      replace S5 := S5.dropN
      replace hc4n : C ∉ N0.map (·.1) := fun q => hc4n (.tail _ q)
      replace hd4n : D ∉ N0.map (·.1) := fun q => hd4n (.tail _ q)
      show wpAny _ A (assign (.Name y₀ py) env (.ref D)) _ _ _
      refine wpAny_assign_Name (wpAny_storeName_local hy (by rw [hyL]; exact S5.ns) (fun h6 hn6 hs6 => ?_) (by rw [hyk]; rfl))
      rw [hyL] at hn6 hs6
      have S6 := S5.set (x := y₀) (v := .ref D) hn6 hs6
      have hd6 : Has h6 D (lst ys) := let ⟨o, ho, r⟩ := hd5; ⟨o, (hs6.2 _ (Ne.symm hLD)).trans ho, r⟩
      refine ⟨_, hns5.sameBut hs6 (Ne.symm hLC), fun h7 hs7 => ?_⟩
      have hk7 : ∀ b o, b ≠ C → h6.get? b = some o → h7.get? b = some o := fun b o hb e => (hs7.2 b hb).trans e
      refine ⟨h7, t5 + 1, rfl, P1', (D, lst ys) :: N0, stv m1 y₀ (.ref D), ⟨S6.base, fun b o e => hk7 _ _ (fun q => by rw [q, hCf.2.2.2] at e; cases e) (S6.keep b o e), let ⟨o, es, ep, ho, r⟩ := S6.ns; ⟨o, es, ep, hk7 _ _ hLC ho, r⟩, S6.out,
        fun p hp => ?_, ?_, fun p hp => ⟨let ⟨o, ho, r⟩ := (S6.ps p hp).1; ⟨o, hk7 _ _ (fun q => hCf.2.2.1 (q ▸ List.mem_map_of_mem hp)) ho, r⟩, (S6.ps p hp).2.1, fun q => ?_⟩⟩, done _ _ _ inv hys⟩
      · rcases List.mem_cons.mp hp with rfl | hp
        · exact ⟨let ⟨o, ho, r⟩ := hd6; ⟨o, hk7 _ _ hDC ho, r⟩, hDf.1, hDf.2.2.2⟩
        · exact ⟨let ⟨o, ho, r⟩ := (S6.nw p hp).1; ⟨o, hk7 _ _ (fun q => hc4n (q ▸ List.mem_map_of_mem hp)) ho, r⟩, (S6.nw p hp).2⟩
      · rw [List.map_cons, List.nodup_cons]; exact ⟨hd4n, S6.nd⟩
      · rw [List.map_cons] at q
        rcases List.mem_cons.mp q with q | q
        · exact hDf.2.2.1 (List.mem_map.mpr ⟨p, hp, q⟩)
        · exact (S6.ps p hp).2.2 q
  have loop' : codeAny (model prg w) A (.compStart (.ListComp elt [⟨.Name x px, iter, ifs, 0⟩] scope pos) 0 (.ref I) (.ref D) (compEnvC scope ((x, C + 1) :: cl) C env)) (compPost (model prg w) A Nope (some (assign (.Name y₀ py) env)) (fun _ s' => Done w G L s QF .next s') (.ref D) C) { s with heap := h3, toks := t1 } :=
    codeAny_compStart_list loop (W.self 0 _ _ _ (W.frame _ _ _ h0 fun b hb o ho => hle3 _ _ (hle2 _ _ ho)) loop)
  exact loop'
end
end Nt
end
section
open PySem PySem.W PyProof.Rows PySem.Calls
set_option maxRecDepth 100000
set_option autoImplicit false
set_option linter.unusedVariables false
namespace Nt
theorem list_no_keys : typeLookup (.type "list") "keys" = pure none := by rw [typeLookup_type, builtinLookup_eq_fast]; kernel_rfl
theorem getAttrQ_miss_list {prog : Program} {w : World} {A : Around} {E : Value → Shared → Prop} {s : Shared} {a : Addr} {o : Obj} {xs : Array Value} {k : Nat} {name : Str} {Q : Option Value → Shared → Prop}
    (hx : s.heap.get? a = some o) (hc : o.cls = .type "list") (hdat : o.data = .seq xs k) (hd : o.dict = none) (hmiss : typeLookup (.type "list") name = pure none) (hname : (["__module__", "__name__", "__qualname__", "__doc__", "__annotations__"] : List Str).contains name = false) (hA : A.handled = none)
    (h : ∀ h' tk, (∀ b o, s.heap.get? b = some o → h'.get? b = some o) → Q none { s with heap := h', toks := tk }) (hsz : name.length + 100 ≤ sizeLine := by size_fits) :
    wpAny (model prog w) A (getAttr? (.ref a) name) Q E s := by
  obtain ⟨c, dct, dat, sl⟩ := o
  simp only at hc hdat hd
  subst hc hdat hd
  obtain ⟨hp, g, d, tk, os⟩ := s
  have hT : ∀ tk', (⟨hp, g, d, tk', os⟩ : Shared).TypeIs (.ref a) "list" := fun _ => ⟨_, hx, rfl⟩
  have f1 := sub_AttributeError
  have f3 := F.slot_list_getattribute.lookup
  have f4 := F.slot_list_getattribute.bind (.ref a)
  have f5 := am_list_getattr_none
  unfold getAttr? getAttrBy? getAttrBy
  repeat (any_goals (first | assumption | exact hT _ | ((with_reducible show wpAny _ _ (call (Value.builtin "list.__getattribute__") _ _) _ _ _); refine call_meets F.slot_list_getattribute (hT _) am_entry_list_getattribute (F.args_list_getattribute_2 _ _) (meets_getattribute_miss_list a xs k sl name _ hmiss hname hsz) ⟨hx, hA, fun h' tk' e hx' => ?_⟩) | wp_step))
  obtain ⟨t', u', he⟩ := hx'.there
  show wpAny _ _ (getattributeRaised _ _ _ _ _ _ _) _ _ _
  unfold getattributeRaised
  repeat (any_goals (first | assumption | wp_step))
  exact h _ _ hx'.of.keeps
theorem plain_dict_loop : plainId "dict.update.loop" = true := by decide +kernel
theorem entry_dict_loop : entryFor table "dict.update.loop" = some Builtin.«dict.update.loop» := entryFor_of_fast (by kernel_rfl)
section
variable {prog : Program} {w : World} {K : Type} [DecidableEq K] {knd : KeyKind prog w K} {A : Around} {s : Shared} {R : Result → Shared → Prop} {kvs : List (K × Value)}
theorem stored_snoc : ∀ {l : List (K × Value)} {k : K} {v : Value}, k ∉ l.map (·.1) → stored l k v = l ++ [(k, v)] := by
  intro l k v h
  have : ¬ (l.any fun kv => decide (kv.1 = k)) = true := by
    rw [List.any_eq_true]
    rintro ⟨kv, m, e⟩
    exact h (of_decide_eq_true e ▸ List.mem_map_of_mem m)
  unfold stored
  rw [if_neg this]
theorem dict_loop {D I r : Addr} {items : Array Value} {h₁ : Heap} (hh : A.handled = none) (hnd : (kvs.map (·.1)).Nodup)
    (hit : ∀ (i : Nat) (kv : K × Value), kvs[i]? = some kv → E3_5 (fun (ta : Addr) (key : Value) (n : Nat) => items[i]? = some (.ref ta)) (fun (ta : Addr) (key : Value) (n : Nat) => knd.is kv.1 key = true) (fun (ta : Addr) (key : Value) (n : Nat) => ta ≠ D) (fun (ta : Addr) (key : Value) (n : Nat) => ta ≠ I) (fun (ta : Addr) (key : Value) (n : Nat) => h₁.get? ta = some (tobj [key, kv.2] n))) (hsz : items.size = kvs.length) (hrD : r ≠ D) (hrI : r ≠ I) (hDI : D ≠ I) (hl : h₁.IsList r items) (hle : kvs.length ≤ sizeLine)
    (hR : ∀ h' tk, h'.DictOf knd D kvs → (∀ b o, b ≠ D → b ≠ I → h₁.get? b = some o → h'.get? b = some o) → R (.ok (.ret .none)) { s with heap := h', toks := tk }) :
    ∀ (k i : Nat) (h : Heap) (tk : Nat) (u : Tok), kvs.length - i = k → i ≤ kvs.length → h.IsListIter I r i → h.DictOf knd D (kvs.take i) → (∀ b o, b ≠ D → b ≠ I → h₁.get? b = some o → h.get? b = some o) →
      codeAny (model prog w) A (.builtin "dict.update.loop" ⟨[.ref D, .ref I, .int i u, .none], []⟩) R { s with heap := h, toks := tk } := by
  have lk : ∀ h : Heap, (∀ b o, b ≠ D → b ≠ I → h₁.get? b = some o → h.get? b = some o) → h.IsList r items := fun h hk => let ⟨o, ho, x⟩ := hl; ⟨o, hk _ _ hrD hrI ho, x⟩
  intro k
  induction k with
  | zero =>
    intro i h tk u hk hi hst hd hkeep
    have hin : i = kvs.length := by omega
    subst hin
    refine codeAny_builtin entry_dict_loop ?_
    rw [Around.under_plainId plain_dict_loop _]
    show wpAny _ A.in1 (pyNext (.ref I) >>= _) _ _ _
    refine wpAny_bind (wpAny_pyNext_list_end (s := { s with heap := h, toks := tk }) (A := A.in1) hh hst (lk h hkeep) (Array.getElem?_eq_none (by omega)) fun h' he => ?_)
    rw [List.take_length] at hd
    refine wpAny_pure (hR h' tk ?_ fun b o h1 h2 e => he b o h2 (hkeep b o h1 h2 e))
    obtain ⟨o, es, ep, ho, x⟩ := hd
    exact ⟨o, es, ep, he _ _ hDI ho, x⟩
  | succ k ih =>
    intro i h tk u hk hi hst hd hkeep
    have hlt : i < kvs.length := by omega
    obtain ⟨kv, hkv⟩ : ∃ p, kvs[i]? = some p := ⟨kvs[i], List.getElem?_eq_getElem hlt⟩
    obtain ⟨ta, key, n, hi1, hkey, ht1, ht2, hta⟩ := hit i kv hkv
    refine codeAny_builtin entry_dict_loop ?_
    rw [Around.under_plainId plain_dict_loop _]
    show wpAny _ A.in1 (pyNext (.ref I) >>= _) _ _ _
    refine wpAny_bind (wpAny_pyNext_list_item (s := { s with heap := h, toks := tk }) hst (lk h hkeep) hi1 fun h' hst' hs' => ?_)
    have hta' : h'.get? ta = some (tobj [key, kv.2] n) := (hs'.2 _ ht2).trans (hkeep _ _ ht1 ht2 hta)
    have hd' : h'.DictOf knd D (kvs.take i) := let ⟨o, es, ep, ho, x⟩ := hd; ⟨o, es, ep, (hs'.2 _ hDI).trans ho, x⟩
    refine wpAny_bind (wpAny_holding ?_)
    refine wpAny_bind (wpAny_tryCatch ?_)
    unfold Builtin.Dict.pairItems
    refine wpAny_bind (wpAny_typeOf (T := "tuple") ⟨_, hta', rfl⟩ ?_)
    rw [if_pos (by decide)]
    refine wpAny_bind (wpAny_seqItems hta' rfl (wpAny_pure ?_))
    have hnew : kv.1 ∉ (kvs.take i).map (·.1) := by
      rw [List.map_take]
      intro hm
      obtain ⟨j, hj⟩ := List.mem_iff_getElem?.mp hm
      rw [List.getElem?_take] at hj
      split at hj
      · rename_i hji
        have h2 : (kvs.map (·.1))[i]? = some kv.1 := by rw [List.getElem?_map, hkv]; rfl
        have hil : i < (kvs.map (·.1)).length := by rw [List.length_map]; exact hlt
        have := (List.getElem?_inj (by rw [List.length_map]; omega) hnd).mp (hj.trans h2.symm)
        omega
      · cases hj
    have hzz : (kvs.take i).length ≤ sizeLine := by rw [List.length_take]; omega
    refine wpAny_holding (wpAny_dictSet_pairs (knd := knd) hkey hd' (fun h'' hd'' hs'' => ?_) hzz)
    rw [stored_snoc hnew] at hd''
    refine wpAny_pure ⟨plainId_quiet plain_dict_loop _, ?_⟩
    have := ih (i + 1) h'' (tk + 1) 0 (by omega) hlt (let ⟨o, ho, x⟩ := hst'; ⟨o, (hs''.2 _ (Ne.symm hDI)).trans ho, x⟩) (by rw [List.take_add_one, hkv]; exact hd'') fun b o h1 h2 e => (hs''.2 _ h1).trans ((hs'.2 _ h2).trans (hkeep b o h1 h2 e))
    exact this
end
section
variable {w : World} {G : Heap} {L : Addr} {d : Nat} {P N : Led} {m : Vars} {env : Env} {Q : Value → Led → Led → Vars → Prop}
/-- dict(pairs), int keys, none twice -/
theorem W_dictPairs {r : Addr} {vs : List Value} {kvs : List (Int × Value)} (hr : Rd G P N r (lst vs)) (hk : All2 (fun v (kv : Int × Value) => X2 fun t tk => v = .ref t ∧ Rd G P N t (tup [.int kv.1 tk, kv.2])) vs kvs) (hnd : (kvs.map (·.1)).Nodup) (hsz : kvs.length ≤ 1000)
    (q : ∀ D, (D == sysModules) = false → Q (.ref D) P ((D, dk (intKind prg w) kvs) :: N) m) : W w G L d (call (.type "dict") [.ref r]) P N m Q := W.mk fun A s R S => by
  refine callType_codes (Q₁ := fun obj s₁ => obj = .ref s.heap.objs.size ∧ s₁ = { s with heap := s.heap.push { cls := .type "dict", data := .dict #[] } }) F.kt_called_dict (F.kt_typeCall_dict_1 _) F.entry_dict_init (kt_code_dict_new _ ⟨rfl, rfl⟩) ?_
  rintro obj s₁ ⟨rfl, rfl⟩
  have hDn := get_size_none s.heap
  have hf := S.fresh hDn
  have hnew : (s.heap.push { cls := .type "dict", data := .dict #[] }).DictOf (intKind prg w) s.heap.objs.size [] := Heap.DictOf.new s.heap
  obtain ⟨nr, hro⟩ := id (S.rd hr)
  have hrl := (S.rd hr).isList
  have kp0 : ∀ b o, s.heap.get? b = some o → (s.heap.push { cls := .type "dict", data := .dict #[] }).get? b = some o := fun _ _ e => Heap.get?_push_of_some _ e
  have hrs : r ≠ s.heap.objs.size := fun e => by
    obtain ⟨o, ho, _⟩ := S.rd hr
    rw [e, hDn] at ho; cases ho
  have hll := All2.length hk
  refine ⟨hnew.typeIs, F.args_dict_init_2 _ _, ?_⟩
  unfold Builtin.«dict.__init__»
  refine wpAny_bind ?_
  unfold Builtin.Dict.selfAndRest
  refine wpAny_bind (wpAny_notOrdered_dict hnew.typeIs ?_)
  show wpAny _ _ (pure (s.heap.objs.size, [Value.ref r])) _ _ _
  refine wpAny_pure ?_
  show wpAny _ _ (Builtin.Dict.updateFrom "dict.__init__" s.heap.objs.size (.ref r) [] .none) _ _ _
  unfold Builtin.Dict.updateFrom
  obtain ⟨ho, n, rfl⟩ := hro
  have hro' := kp0 _ _ ho
  refine wpAny_bind (wpAny_typeOf (T := "list") ⟨_, hro', rfl⟩ ?_)
  rw [if_pos (by decide)]
  refine wpAny_bind (getAttrQ_miss_list hro' rfl rfl rfl list_no_keys (by decide +kernel) R.handled fun h' tk kp => ?_)
  rw [if_pos (show (none : Option Value).isNone = true from rfl)]
  refine wpAny_bind (wpAny_rule ?_)
  have hrl' : h'.IsList r vs.toArray := let ⟨o, ho, x⟩ := hrl; ⟨o, kp _ _ (kp0 _ _ ho), x⟩
  refine wpAny_bind (wpAny_pyIter_list (s := { s with heap := h', toks := tk }) hrl' ?_)
  have hDl : s.heap.objs.size < h'.objs.size := by
    obtain ⟨o, es, ep, ho, _⟩ := hnew
    exact Heap.lt_size (kp _ _ ho)
  have kp1 : ∀ b o, (s.heap.push { cls := .type "dict", data := .dict #[] }).get? b = some o → (h'.push { cls := .type "list_iterator", data := .fields #[.ref r, .int 0 0] }).get? b = some o := fun _ _ e => Heap.get?_push_of_some _ (kp _ _ e)
  refine wpAny_pure ⟨plainId_quiet plain_dict_loop _, ?_⟩
  refine dict_loop (A := A.in1) (s := s) (knd := intKind prg w) (kvs := kvs) (D := s.heap.objs.size) (I := h'.objs.size) (r := r) (items := vs.toArray) (h₁ := h'.push { cls := .type "list_iterator", data := .fields #[.ref r, .int 0 0] }) R.handled hnd (fun i kv hkv => ?_) (by rw [List.size_toArray]; exact hll) hrs (Nat.ne_of_lt (Heap.lt_size (kp _ _ hro'))) (Nat.ne_of_lt hDl)
    (let ⟨o, ho, x⟩ := hrl'; ⟨o, Heap.get?_push_of_some _ ho, x⟩) (by rw [sizeLine_eq]; omega) (fun h2 tk2 hd2 kp2 => ?_) kvs.length 0 _ tk 0 (Nat.sub_zero _) (Nat.zero_le _) ?_ ?_ (fun _ _ _ _ e => e)
  · obtain ⟨v, hv, t, tk0, rfl, hT⟩ : ∃ v, vs[i]? = some v ∧ X2 fun t tk => v = .ref t ∧ Rd G P N t (tup [.int kv.1 tk, kv.2]) := All2.get hk i kv hkv
    obtain ⟨o, ho, n, rfl⟩ := S.rd hT
    have hlt := Heap.lt_size ho
    exact ⟨t, _, n, by simpa using hv, intKind_is .., Nat.ne_of_lt hlt, Nat.ne_of_lt (Nat.lt_trans hlt hDl), kp1 _ _ (kp0 _ _ ho)⟩
  · refine ⟨rfl, ?_⟩
    have S1 : St w G L P N m h2 := S.grow fun b o e => kp2 b o (Nat.ne_of_lt (Heap.lt_size e)) (Nat.ne_of_lt (Nat.lt_trans (Heap.lt_size e) hDl)) (kp1 _ _ (kp0 _ _ e))
    exact Done.here (tk := tk2) (S1.addN (p := dk (intKind prg w) kvs) (Heap.dictOf_iff.mp hd2) hf) (q _ S.notMods)
  · exact ⟨_, Heap.get?_push_size _ rfl, rfl, rfl⟩
  · obtain ⟨o, es, ep, ho, x⟩ := hnew
    exact ⟨o, es, ep, kp1 _ _ ho, x⟩
end
end Nt
end
section
open PySem PySem.W PyProof.Rows PySem.Calls
set_option maxRecDepth 100000
set_option autoImplicit false
set_option linter.unusedVariables false
namespace Nt
section
variable {w : World} {G : Heap} {L : Addr} {d : Nat} {P N : Led} {m : Vars} {env : Env} {Q : Value → Led → Led → Vars → Prop} {QF : Flow → Led → Led → Vars → Prop}
noncomputable def KeepPost (P1 N' : Led) (b : Bool) (m0 : Vars) : Bool → Led → Led → Vars → Prop := fun ok P N m => ok = b ∧ (∀ q ∈ P1, q ∈ P) ∧ N = N' ∧ m = m0
/-- the source, the test and the end of `[x for x in l if test]` over ints -/
inductive FiltSrc (w : World) (G : Heap) (d : Nat) (m : Vars) (x : Str) (ifs : List Expr) (cenv : Addr → Env) (QR : Addr → List Value → Led → Led → Prop) (v : Value) (P1 N' : Led) (m' : Vars) : Prop
  | mk (vs : List Value) (ns : List Int) (p : Int → Bool) (hm : m' = m) (l : Addr) (e : v = .ref l) (hl : Rp G P1 l (lst vs)) (hi : IntsAre vs ns) (hn : ns.length ≤ 1000)
    (turn : ∀ G', Le G G' → ∀ C t c, c ∈ ns → W w G' C d (tests ifs (cenv C)) P1 N' [(x, some (.int c t))] (KeepPost P1 N' (p c) [(x, some (.int c t))]))
    (done : ∀ r ys, IntsAre ys (ns.filter p) → QR r ys P1 N')
inductive FiltSrcC (w : World) (G : Heap) (d : Nat) (m : Vars) (ifs : List Expr) (cenv : Addr → Addr → Env) (QR : Addr → List Value → Led → Led → Prop) (v : Value) (P1 N' : Led) (m' : Vars) : Prop
  | mk (vs : List Value) (ns : List Int) (p : Int → Bool) (hm : m' = m) (l : Addr) (e : v = .ref l) (hl : Rp G P1 l (lst vs)) (hi : IntsAre vs ns) (hn : ns.length ≤ 1000)
    (turn : ∀ G', Le G G' → ∀ C c t n, n ∈ ns → W w G' C d (tests ifs (cenv C c)) P1 ((c, cellp (some (.int n t))) :: N') [] (KeepPost P1 ((c, cellp (some (.int n t))) :: N') (p n) []))
    (done : ∀ r ys, IntsAre ys (ns.filter p) → QR r ys P1 N')
theorem filter_snoc {p : Int → Bool} {ns : List Int} {i : Nat} {c : Int} (h : ns[i]? = some c) : (ns.take (i + 1)).filter p = (ns.take i).filter p ++ (if p c then [c] else []) := by
  rw [List.take_add_one, h, List.filter_append]
  simp only [Option.toList_some, List.filter_cons, List.filter_nil]
theorem W_ListFilter {iter : Expr} {x : Str} {px px2 : Pos} {ifs : List Expr} {scope : Scope} {pos : Pos} {cl : List (Str × Addr)}
    (hiter : W w G L d (eval iter env) P N m (FiltSrc w G d m x ifs (fun C => compEnvC scope cl C env) fun r ys P1 N' => Q (.ref r) P1 ((r, lst ys) :: N') m))
    (hclos : closureFor scope env = pure cl := by rfl) (hs : ∀ x, foldedSetIterable iter env x = pure x := by intro _; rfl) (hkind : scope.kind = .function := by rfl)
    (hnames : ∀ x ∈ scope.names, x.2 = .local → scope.names.lookup x.1 = some .local := by decide) (hcell : ∀ x ∈ scope.names, x.2 ≠ .cell := by decide) (hx : ∀ C, (compEnvC scope cl C env).kindOf x = some .local := by intro _; rfl)
    (hd : (x == ("__debug__" : Str)) = false := by decide) :
    W w G L d (eval (.ListComp (.Name x px2) [⟨.Name x px, iter, ifs, 0⟩] scope pos) env) P N m Q := by
  refine W_ListCompG (hiter.mono fun v P1 N' m' ⟨vs, ns, p, e, l, e2, hl, hi, hn, turn, done⟩ => ?_) hclos hs hkind hnames hcell hx
  subst e e2
  have hlen := hi.length
  refine ⟨vs.length, _, fun i ys N => IntsAre ys ((ns.take i).filter p) ∧ N = N', by rw [sizeLine_eq]; omega, rfl, .list hl, ⟨.nil, rfl⟩, ?_, ?_⟩
  · rintro G' le C i v ys N hlt hv ⟨hys, rfl⟩ _
    obtain ⟨c, t, hc, rfl⟩ := IntsAre.getV hi hv
    refine (turn G' le C t c (List.mem_of_getElem? hc)).mono fun ok P2 N2 m2 ⟨a1, a2, a3, a4⟩ => ?_
    subst a1 a3 a4
    refine ⟨fun hp => W_local (v := .int c t) (by simp [lk]) ?_ hkind (hx C) rfl hd, fun hp => ⟨a2, rfl, ?_, rfl⟩⟩
    · refine ⟨a2, rfl, ?_, rfl⟩
      show IntsAre (ys ++ [.int c t]) ((ns.take (i + 1)).filter p)
      rw [filter_snoc hc, if_pos hp]
      exact hys.append (.cons _ _ .nil)
    · rw [filter_snoc hc, if_neg (by rw [hp]; decide), List.append_nil]
      exact hys
  · rintro ys N r ⟨hys, rfl⟩ _
    rw [hlen, List.take_length] at hys
    exact done r ys hys
theorem W_AssignFilter {iter : Expr} {x y₀ : Str} {px px2 py : Pos} {spos : Pos} {ifs : List Expr} {scope : Scope} {pos : Pos} {cl : List (Str × Addr)}
    (hiter : W w G L d (eval iter env) P N m (FiltSrc w G d m x ifs (fun C => compEnvC scope cl C env) fun r ys P1 N' => QF .next P1 ((r, lst ys) :: N') (stv m y₀ (.ref r))))
    (hsw : swapsWith (.ListComp (.Name x px2) [⟨.Name x px, iter, ifs, 0⟩] scope pos) (some (.Name y₀ py)) spos.line env = pure true := by rfl)
    (hy : env.kindOf y₀ = some .local := by rfl) (hyk : env.scope.kind = .function := by rfl) (hyL : env.locals = L := by rfl)
    (hclos : closureFor scope env = pure cl := by rfl) (hs : ∀ x, foldedSetIterable iter env x = pure x := by intro _; rfl) (hkind : scope.kind = .function := by rfl)
    (hnames : ∀ x ∈ scope.names, x.2 = .local → scope.names.lookup x.1 = some .local := by decide) (hcell : ∀ x ∈ scope.names, x.2 ≠ .cell := by decide) (hx : ∀ C, (compEnvC scope cl C env).kindOf x = some .local := by intro _; rfl)
    (hd : (x == ("__debug__" : Str)) = false := by decide) :
    W w G L d (exec (.Assign [.Name y₀ py] (.ListComp (.Name x px2) [⟨.Name x px, iter, ifs, 0⟩] scope pos) spos) env) P N m QF := by
  refine W_AssignComp (hiter.mono fun v P1 N' m' ⟨vs, ns, p, e, l, e2, hl, hi, hn, turn, done⟩ => ?_) hsw hy hyk hyL hclos hs hkind hnames hcell hx
  subst e e2
  have hlen := hi.length
  refine ⟨vs.length, _, fun i ys N => IntsAre ys ((ns.take i).filter p) ∧ N = N', by rw [sizeLine_eq]; omega, rfl, .list hl, ⟨.nil, rfl⟩, ?_, ?_⟩
  · rintro G' le C i v ys N hlt hv ⟨hys, rfl⟩ _
    obtain ⟨c, t, hc, rfl⟩ := IntsAre.getV hi hv
    refine (turn G' le C t c (List.mem_of_getElem? hc)).mono fun ok P2 N2 m2 ⟨a1, a2, a3, a4⟩ => ?_
    subst a1 a3 a4
    refine ⟨fun hp => W_local (v := .int c t) (by simp [lk]) ?_ hkind (hx C) rfl hd, fun hp => ⟨a2, rfl, ?_, rfl⟩⟩
    · refine ⟨a2, rfl, ?_, rfl⟩
      show IntsAre (ys ++ [.int c t]) ((ns.take (i + 1)).filter p)
      rw [filter_snoc hc, if_pos hp]
      exact hys.append (.cons _ _ .nil)
    · rw [filter_snoc hc, if_neg (by rw [hp]; decide), List.append_nil]
      exact hys
  · rintro ys N r ⟨hys, rfl⟩ _
    rw [hlen, List.take_length] at hys
    exact done r ys hys
/-- the same, the target a cell -/
theorem W_AssignFilterC {iter : Expr} {x y₀ : Str} {px px2 py : Pos} {spos : Pos} {ifs : List Expr} {scope : Scope} {pos : Pos} {cl : List (Str × Addr)}
    (hiter : W w G L d (eval iter env) P N m (FiltSrcC w G d m ifs (fun C c => compEnvC scope ((x, c) :: cl) C env) (fun r ys P1 N' => QF .next P1 ((r, lst ys) :: N') (stv m y₀ (.ref r)))))
    (hsw : swapsWith (.ListComp (.Name x px2) [⟨.Name x px, iter, ifs, 0⟩] scope pos) (some (.Name y₀ py)) spos.line env = pure true := by rfl)
    (hy : env.kindOf y₀ = some .local := by rfl) (hyk : env.scope.kind = .function := by rfl) (hyL : env.locals = L := by rfl)
    (hclos : closureFor scope env = pure cl := by rfl) (hs : ∀ x, foldedSetIterable iter env x = pure x := by intro _; rfl) (hkind : scope.kind = .function := by rfl)
    (hnames : ∀ x ∈ scope.names, x.2 = .local → scope.names.lookup x.1 = some .local := by decide)
    (hcf : ∀ n, cellsFrom n scope.names cl = (x, n) :: cl := by intro _; rfl) (hpc : ∀ h, pushCells h scope.names = h.push { cls := .type "cell", data := .cell none } := by intro _; rfl) (hx : ∀ C c, (compEnvC scope ((x, c) :: cl) C env).kindOf x = some .cell := by intro _ _; rfl)
    (hd : (x == ("__debug__" : Str)) = false := by decide) (hcd : (x == ("__classdict__" : Str)) = false := by decide) :
    W w G L d (exec (.Assign [.Name y₀ py] (.ListComp (.Name x px2) [⟨.Name x px, iter, ifs, 0⟩] scope pos) spos) env) P N m QF := by
  refine W_AssignCompC (hiter.mono fun v P1 N' m' ⟨vs, ns, p, e, l, e2, hl, hi, hn, turn, done⟩ => ?_) hsw hy hyk hyL hclos hs hkind hnames hcf hpc hx
  subst e e2
  have hlen := hi.length
  refine ⟨vs.length, _, fun i ys N => IntsAre ys ((ns.take i).filter p) ∧ N = N', by rw [sizeLine_eq]; omega, rfl, .list hl, ⟨.nil, rfl⟩, ?_, ?_⟩
  · rintro G' le C c i v ys N hlt hv ⟨hys, rfl⟩ _
    obtain ⟨n, t, hc, rfl⟩ := IntsAre.getV hi hv
    refine (turn G' le C c t n (List.mem_of_getElem? hc)).mono fun ok P2 N2 m2 ⟨a1, a2, a3, a4⟩ => ?_
    subst a1 a3 a4
    refine ⟨fun hp => W_cell (c := c) (by show List.lookup x ((x, c) :: cl) = _; rw [List.lookup_cons, beq_self_eq_true]) (.inl (.head _)) ?_ hkind (.inl (hx C c)) hcd hd, fun hp => ⟨a2, rfl, _, rfl, ?_, rfl⟩⟩
    · refine ⟨a2, rfl, _, rfl, ?_, rfl⟩
      show IntsAre (ys ++ [.int n t]) ((ns.take (i + 1)).filter p)
      rw [filter_snoc hc, if_pos hp]
      exact hys.append (.cons _ _ .nil)
    · rw [filter_snoc hc, if_neg (by rw [hp]; decide), List.append_nil]
      exact hys
  · rintro ys N r ⟨hys, rfl⟩ _
    rw [hlen, List.take_length] at hys
    exact done r ys hys
end
end Nt
end
section
open PySem PySem.W PyProof.Rows PySem.Calls
set_option maxRecDepth 100000
set_option autoImplicit false
set_option linter.unusedVariables false
namespace Nt
theorem TdAt.keeps {w : World} {H H' : Heap} {da : Addr} {D : FD} (k : Le H H') (x : TdAt w H da D) : TdAt w H' da D := let ⟨es, a, b, c⟩ := x; ⟨es, a, b.keeps k, fun e he => ⟨(c e he).1.keeps k, (c e he).2.keeps k⟩⟩
theorem FiAt.keeps {w : World} {H H' : Heap} {x : Addr} {turk : Bool} {f : Int → Option Row} {D1 D2 : FD} (k : Le H H') (y : FiAt w H x turk f D1 D2) : FiAt w H' x turk f D1 D2 :=
  let ⟨⟨dx, dd, sm, fl, d1, d2, a, b, c, e⟩⟩ := y; ⟨⟨dx, dd, sm, fl, d1, d2, a.keeps k, b.keeps k, c.keeps k, e.keeps k⟩⟩
noncomputable def pool : List Int := [97, 98, 99, 65, 66, 223, 7838, 8490, 64261, 73, 304, 105, 305, 775]
theorem pool_has {w : World} {G : Heap} (B : Base w G) : ∃ o, G.get? 416 = some o ∧ ∃ vs, IntsAre vs pool ∧ lst vs o := by
  have h : ∃ o, (KK w).lookup 416 = some o ∧ ∃ vs, IntsAre vs pool ∧ lst vs o := ⟨_, rfl, _, .cons _ _ (.cons _ _ (.cons _ _ (.cons _ _ (.cons _ _ (.cons _ _ (.cons _ _ (.cons _ _ (.cons _ _ (.cons _ _ (.cons _ _ (.cons _ _ (.cons _ _ (.cons _ _ .nil))))))))))))), _, rfl⟩
  obtain ⟨o, ho, x⟩ := h
  exact ⟨o, B.inK _ _ ho, x⟩
noncomputable def FoldKv (w : World) (H : Heap) (F : Int → List Int) (kvs : List (Int × Value)) (cs : List Int) : Prop := All2 (fun (kv : Int × Value) c => kv.1 = c ∧ ∃ r, kv.2 = .ref r ∧ Has H r (tupI (F c))) kvs cs
theorem FoldKv.at {w : World} {H : Heap} {F : Int → List Int} {kvs : List (Int × Value)} {cs : List Int} (x : FoldKv w H F kvs cs) {c : Int} (hc : c ∈ cs) : ∃ r, valueAt kvs c = some (.ref r) ∧ Has H r (tupI (F c)) := by
  unfold FoldKv at x
  induction x with
  | nil => cases hc
  | @cons kv c' kvs cs a _ ih =>
    obtain ⟨e, r, e2, h⟩ := a
    unfold valueAt at ih ⊢
    rw [List.find?_cons]
    by_cases q : kv.1 = c
    · rw [decide_eq_true q]
      obtain rfl : c' = c := e.symm.trans q
      exact ⟨r, by rw [← e2]; rfl, h⟩
    · rw [decide_eq_false q]
      rcases List.mem_cons.mp hc with h1 | h1
      · exact absurd (e.trans h1.symm) q
      · exact ih h1
theorem FoldKv.keeps {w : World} {H H' : Heap} {F : Int → List Int} {kvs : List (Int × Value)} {cs : List Int} (k : Le H H') (x : FoldKv w H F kvs cs) : FoldKv w H' F kvs cs := All2.mono (fun _ _ ⟨e, r, e2, h⟩ => ⟨e, r, e2, h.keeps k⟩) x
inductive I26_1 (H : Heap) (F : Int → List Int) (T : Led) (y : Value) (c : Int) : Prop
  | mk (t : Addr) (u : Tok) (r : Addr) (hh1 : y = .ref t) (hh2 : (t, tup [.int c u, .ref r]) ∈ T) (hh3 : ((r, tupI (F c)) ∈ T ∨ Has H r (tupI (F c))))
/-- what the comprehension under dict(..) has made -/
noncomputable def FoldEl (H : Heap) (F : Int → List Int) (T : Led) (ys : List Value) (cs : List Int) : Prop := All2 (fun (y : Value) c => (I26_1 H F T y c)) ys cs
inductive I26_2 (T : Led) (y : Value) (kv : Int × Value) : Prop
  | mk (t : Addr) (u : Tok) (hh1 : y = .ref t) (hh2 : (t, tup [.int kv.1 u, kv.2]) ∈ T)
theorem FoldEl.kvs {w : World} {H : Heap} {F : Int → List Int} {T : Led} {ys : List Value} {cs : List Int} (x : FoldEl H F T ys cs) : ∃ kvs : List (Int × Value), All2 (fun (y : Value) (kv : Int × Value) => (I26_2 T y kv)) ys kvs ∧ kvs.map (·.1) = cs ∧ ∀ H', Le H H' → (∀ p ∈ T, Has H' p.1 p.2) → FoldKv w H' F kvs cs := by
  unfold FoldEl at x
  induction x with
  | nil => exact ⟨[], .nil, rfl, fun _ _ _ => .nil⟩
  | @cons y c ys cs a _ ih =>
    obtain ⟨kvs, h1, h2, h3⟩ := ih
    obtain ⟨t, u, r, e, ht, hr⟩ := a
    refine ⟨(c, .ref r) :: kvs, .cons ⟨t, u, e, ht⟩ h1, by rw [List.map_cons, h2], fun H' k hT => .cons ⟨rfl, r, rfl, ?_⟩ (h3 H' k hT)⟩
    rcases hr with h | h
    · exact hT _ h
    · exact h.keeps k
theorem FoldEl.snoc {H : Heap} {F : Int → List Int} {T : Led} {ys : List Value} {cs : List Int} {c : Int} {u : Tok} {q r : Addr} {X : Led} (x : FoldEl H F T ys cs) (hX : (r, tupI (F c)) ∈ X ∨ Has H r (tupI (F c))) : FoldEl H F ((q, tup [.int c u, .ref r]) :: (X ++ T)) (ys ++ [.ref q]) (cs ++ [c]) := by
  refine All2.app (All2.mono (fun y c ⟨t, u, r, e, h1, h2⟩ => ⟨t, u, r, e, .tail _ (List.mem_append_right _ h1), h2.imp (fun h => .tail _ (List.mem_append_right _ h)) id⟩) x) (.cons ⟨q, u, r, rfl, .head _, hX.imp (fun h => .tail _ (List.mem_append_left _ h)) id⟩ .nil)
theorem St.addNew {w : World} {H G : Heap} {L : Addr} {P N : Led} {m : Vars} {g h' : Heap} {r : Addr} {p : OP} (S : St w G L P N m h') (S1 : St w G L P N m g) (hH : Le H G) (x : New H g h' r p) : ∃ X : Led, St w G L P (X ++ N) m h' ∧ ((r, p) ∈ X ∨ Has H r p) := by
  rcases x.2 with q | ⟨o, q⟩
  · exact ⟨[(r, p)], S.addN x.1 (S1.fresh q), .inl (.head _)⟩
  · refine ⟨[], S, .inr ?_⟩
    obtain ⟨o', ho', hp⟩ := x.1
    have := S.keep _ _ (hH _ _ q)
    rw [this] at ho'
    cases ho'
    exact ⟨o, q, hp⟩
noncomputable def likeS (f : Int → Option Row) (turk : Bool) (a b : Int) : Bool := decide (foldS f (stsOf false turk) a = foldS f (stsOf false turk) b)
noncomputable def likeF (f : Int → Option Row) (turk : Bool) (a b : Int) : Bool := decide (foldS f (stsOf true turk) a = foldS f (stsOf true turk) b)
noncomputable def mateP (f : Int → Option Row) (turk : Bool) (one mate : Int) : Bool := likeS f turk one mate || (decide (1 < ((foldS f (stsOf true turk) one).length : Int)) && likeF f turk one mate)
noncomputable def dueP (f : Int → Option Row) (turk : Bool) (some : List Int) (one : Int) : Bool := !decide (some.filter (mateP f turk one) = [])
inductive I26_4 (f : Int → Option Row) (turk : Bool) (D1 : FD) (D2 : FD) (c : Int) (c2 : Int) (qs1 : List (Int × Int)) : Prop
  | mk (bn1 : List (Int × Int)) (hh1 : qs1.foldl stepB [] = flat bn1) (hh2 : (flat bn1).Pairwise (· ≤ ·)) (hh3 : Tame bn1) (hh4 : (closedPairs f turk D1 D2 bn1).length < 64) (hh5 : (∀ ps : List Int, ps.Perm pool → ps.Pairwise (· ≤ ·) → codesOf bn1 = ps.filter (dueP f turk [c, c2]))) (hh6 : ∀ qs2 : List (Int × Int), qs2.Perm ((closedPairs f turk D1 D2 bn1).filter GoodPair) → qs2.Pairwise (fun x y => x.1 ≤ y.1) → qs2.foldl stepB [] = flat bn1)
inductive I26_3 (f : Int → Option Row) (turk : Bool) (D1 : FD) (D2 : FD) (c : Int) (c2 : Int) (qs : List (Int × Int)) : Prop
  | mk (bn : List (Int × Int)) (hh1 : qs.foldl stepB [] = flat bn) (hh2 : (flat bn).Pairwise (· ≤ ·)) (hh3 : bn.length ≤ 400) (hh4 : (closedPairs f turk D1 D2 bn).length < 64) (hh5 : ∀ qs1 : List (Int × Int), qs1.Perm ((closedPairs f turk D1 D2 bn).filter GoodPair) → qs1.Pairwise (fun x y => x.1 ≤ y.1) → (I26_4 f turk D1 D2 c c2 qs1))
/-- what the plain law owes the walk of _law_index_right -/
structure IxLaw (f : Int → Option Row) (turk : Bool) (D1 D2 : FD) : Prop where
  h1 : ∀ k cs, D1.lookup k = some cs → cs.length ≤ 20
  h2 : ∀ k cs, D2.lookup k = some cs → cs.length ≤ 20
  hk1 : ∀ k ∈ D1.map (·.1), k ≠ [] ∧ 0 ≤ k.headD 0
  hk2 : ∀ k ∈ D2.map (·.1), k ≠ []
  hl1 : D1.length < 64
  hl2 : D2.length < 64
  like : ∀ c ∈ pool, ∀ ns ps : List Int, ns.Perm (alike0 f turk D1 c) → ns.Pairwise (· ≤ ·) → ps.Perm pool → ps.Pairwise (· ≤ ·) → ns = ps.filter fun o => likeS f turk o c
  unf : ∀ c ∈ pool, 1 < ((foldS f (stsOf true turk) c).length : Int) → ∀ ns ps : List Int, ns.Perm ((D2.lookup (foldS f (stsOf true turk) c)).getD []) → ns.Pairwise (· ≤ ·) → ps.Perm pool → ps.Pairwise (· ≤ ·) → ns = ps.filter fun o => likeF f turk o c
  closed : ∀ c ∈ pool, ∀ c2 ∈ pool, ∀ qs : List (Int × Int), qs.Perm [(c, c), (c2, c2)] → qs.Pairwise (fun x y => x.1 ≤ y.1) → (I26_3 f turk D1 D2 c c2 qs)
theorem pool_nonneg {c : Int} (h : c ∈ pool) : 0 ≤ c := (by decide : ∀ c ∈ pool, 0 ≤ c) c h
theorem St.opnI {w : World} {G : Heap} {L : Addr} {P N : Led} {m : Vars} {h : Heap} {a : Addr} {ns : List Int} (S : St w G L P ((a, lstI ns) :: N) m h) : ∃ vs, IntsAre vs ns ∧ St w G L P ((a, lst vs) :: N) m h := by
  obtain ⟨o, ho, vs, hv, hl⟩ := (S.nw _ (.head _)).1
  exact ⟨vs, hv, Upd.head.id S fun _ => ⟨o, ho, hl⟩⟩
inductive I26_5 (D : Deck) : Prop
  | mk (c : Int) (hh1 : pool[(drawS D 14).1.toNat]? = some c) (hh2 : c ∈ pool) (hh3 : 0 ≤ (drawS D 14).1) (hh4 : (drawS D 14).1 < 2 ^ 63)
theorem pool_draw {D : Deck} : (I26_5 D) := by
  have h := drawS_range (D := D) (many := 14) (by decide)
  have hlt : (drawS D 14).1.toNat < pool.length := by show _ < 14; omega
  exact ⟨pool[(drawS D 14).1.toNat], List.getElem?_eq_getElem hlt, List.getElem_mem hlt, h.1, by omega⟩
end Nt
end
section
open PySem PySem.W PyProof.Rows PySem.Calls
set_option maxRecDepth 100000
set_option autoImplicit false
set_option maxHeartbeats 8000000
set_option linter.unusedVariables false
namespace Nt
noncomputable def IrLed (w : World) (L tx : Addr) (turk : Bool) (dq lf : Addr) (D : Deck) (co si fu so : Option Value) : Led := [(L + 6, cellp so), (L + 5, cellp fu), (L + 4, cellp si), (L + 3, cellp co), (L + 2, cellp (some (.bool turk))), (L + 1, cellp (some (.ref tx)))] ++ (DeckLed w dq lf D ++ [])
theorem index_right_spec {w : World} {dq lf tx dd rm : Addr} {D : Deck} {turk : Bool} {starts : List Int} {vals : List (Option Row)} {f : Int → Option Row} {ks : List Int} {H : Heap} (hT : ToldAt w H tx f) (hH : DataRm w H dd rm starts vals) (hgood : Good starts vals f) (hsh : Short f) (hne : ∀ ss c, foldS f ss c ≠ [])
    (hlen : starts.length = vals.length) (hsm : starts.length ≤ 900) (hks : setRows starts vals = ks.map fun c => (c, c, f c)) (hkl : ks.length ≤ 100) (hkp : ∀ c ∈ ks, 0 ≤ c ∧ c ≤ 1000000 ∧ (f c).isSome = true)
    (hD : DeckOk D) (hdk : (dq == sysModules) = false) (hlaw : IxLaw f turk (ixOne f turk ks) (ixMany f turk ks)) :
    Fn w 15 (.ref 459) [.ref dq, .ref tx, .ref dd, .bool turk] (DeckLed w dq lf D) (fun G => Le H G) (fun _ v _ _ => v = .bool true) := by
  refine Fn.of_bodyC (names := []) (m₀ := [("deck", some (.ref dq)), ("data", some (.ref dd)), ("index", none), ("mates", none), ("due", none), ("closed", none)])
    (Nc := fun L => [(L + 6, cellp none), (L + 5, cellp none), (L + 4, cellp none), (L + 3, cellp none), (L + 2, cellp (some (.bool turk))), (L + 1, cellp (some (.ref tx)))]) rfl rfl rfl rfl (by decide)
    (fun L => lk_bindL (names := ["deck", "data", "index", "mates", "due", "closed"]) rfl rfl) (fun L => rfl) ?_
  intro G L B hG
  refine W.letE ?_
  intro en0 Qf0
  -- the index
  refine W_cons (W_AssignName (W_CallName (W_global (v := .ref 340) rfl (W_callWithF rfl (W_argsCons (W_local rfl (W_argsCons (W_cell (c := L + 2) rfl (.inl (.tail _ (.tail _ (.tail _ (.tail _ (.head _)))))) (W_argsNil ?_)))))))))
  refine W_new (cls_FoldIndex w) rfl rfl (fun x dx => (fi_init_spec hH hgood hsh hlen hsm hks hkl hkp).le (by decide)) (fun x dx g S => ⟨fun b o e => S.keep _ _ (hG _ _ e), (S.ps _ (.head _)).1⟩) fun x dx N' v g h' hxG hxP S1 k S2 _ ⟨e, sm, fl, d1, d2, es1, es2, e2, n1, n2, hf1, hf2, hg1, hg2, ⟨hs1, hs2, hs3⟩, ⟨hl1, hl2, hl3⟩⟩ => ⟨e, ?_⟩
  subst e2
  have offN : ∀ {a : Addr} {X Y : Led}, a ∉ X.map (·.1) → a ∉ Y.map (·.1) → a ∉ (X ++ Y).map (·.1) := fun h1 h2 q => by
    rw [List.map_append] at q
    exact (List.mem_append.mp q).elim h1 h2
  have S3 := S2.pin hs1 (S1.fresh hs2).1 (offN hs3 (S1.fresh hs2).2.1)
  have S4 := S3.pin hl1 (S1.fresh hl2).1 (offN hl3 (S1.fresh hl2).2.1)
  refine ⟨_, _, _, St.freezeAll (N := (L + 6, cellp none) :: (L + 5, cellp none) :: (L + 4, cellp none) :: (L + 3, cellp none) :: (L + 2, cellp (some (.bool turk))) :: (L + 1, cellp (some (.ref tx))) :: DeckLed w dq lf D) S4, W_store ?_⟩
  refine W.rebase fun G1 le1 B1 hin => ?_
  have hG1 : Le H G1 := fun b o e => le1 _ _ (hG _ _ e)
  have inN : ∀ p ∈ (tdLed w d1 es1 ++ (tdLed w d2 es2 ++ [(dx, att 5 (fiA dd sm fl d1 d2))])), Has G1 p.1 p.2 := fun p hp => hin p (List.mem_append_left _ (List.mem_reverse.mpr hp))
  have inP : ∀ p ∈ [(fl, tupS (stsOf true turk)), (sm, tupS (stsOf false turk)), (x, ins 340 dx)], Has G1 p.1 p.2 := fun p hp => hin p (List.mem_append_right _ hp)
  have hFi : FiAt w G1 x turk f (ixOne f turk ks) (ixMany f turk ks) := by
    refine ⟨dx, dd, sm, fl, d1, d2, ⟨inP (x, _) (.tail _ (.tail _ (.head _))), ?_, inP (sm, _) (.tail _ (.head _)), inP (fl, _) (.head _), n1, n2⟩, (hH.at hgood).keeps hG1, ⟨es1, hg1, inN (d1, _) (List.mem_append_left _ (.head _)), fun e he => ⟨(hf1 e he).keeps hG1, inN (e.la, lstI e.cs) (List.mem_append_left _ (.tail _ (List.mem_map_of_mem (f := fun e : TE => (e.la, lstI e.cs)) he)))⟩⟩, es2, hg2, inN (d2, _) (List.mem_append_right _ (List.mem_append_left _ (.head _))), fun e he => ⟨(hf2 e he).keeps hG1, inN (e.la, lstI e.cs) (List.mem_append_right _ (List.mem_append_left _ (.tail _ (List.mem_map_of_mem (f := fun e : TE => (e.la, lstI e.cs)) he))))⟩⟩
    obtain ⟨o, ho, z⟩ := inN (dx, att 5 (fiA dd sm fl d1 d2)) (List.mem_append_right _ (List.mem_append_right _ (.head _)))
    exact ⟨o, ho, att_le (by decide) z⟩
  clear inN inP
  obtain ⟨opl, hopl, pvs, hpi, hpl⟩ := pool_has B1
  have hpll := hpi.length
  have hpl14 : pvs.length = 14 := hpll
  have rp : ∀ {P N : Led}, Rd G1 P N 416 (lst pvs) := .inr (.inr ⟨_, hopl, hpl⟩)
  have rpI : ∀ {P N : Led}, Rd G1 P N 416 (lstI pool) := .inr (.inr ⟨_, hopl, _, hpi, hpl⟩)
  refine W.st (P' := []) ?_ fun h S => S.subP (P' := []) fun _ h => (nomatch h)
  -- the code
  refine W_cons (W_AssignName (W_Subscript (W_global (v := .ref 416) rfl (W_CallName (W_global (v := .ref 428) rfl (W_callWithF rfl (W_argsCons (W_local rfl (W_argsCons (W_CallName (W_builtin rfl rfl (W_callWithB (W_argsCons (W_global (v := .ref 416) rfl (W_argsNil (W_lenL rp (by omega) fun t1 => ?_))))))))))))))))
  rw [hpl14]
  refine W_argsNil (W_draw (X := [_, _, _, _, _, _]) (Y := []) hD (by decide) hdk fun t2 => ?_)
  obtain ⟨c, hcd, hcm, hc0, hc63⟩ := pool_draw (D := D)
  have hD1 := drawS_ok (many := 14) hD
  generalize (drawS D 14).2 = D1 at hD1 ⊢
  refine W_itemI rpI hc0 hcd hc63 fun t3 => ?_
  refine W_storeCell (c := L + 3) rfl (.tail (.tail (.tail .head))) ?_
  -- simple
  refine W_cons (W_AssignName (W_CallName (W_builtin rfl rfl (W_callWithT (W_argsCons (W_ListCompG (W_global (v := .ref 416) rfl ⟨pvs.length, _, fun i ys N => ∃ T, N = T ++ (IrLed w L tx turk dq lf D1 (some (.int c t3)) none none none) ∧ FoldEl H (foldS f (stsOf false turk)) T ys (pool.take i), by rw [sizeLine_eq]; omega, rfl, .list (.inr ⟨_, hopl, hpl⟩), ⟨[], rfl, .nil⟩, ?_, ?_⟩)))))))
  · rintro G' le C i v ys N hi hv ⟨T, rfl, hys⟩ _
    obtain ⟨n, t, hn, rfl⟩ := IntsAre.getV hpi hv
    refine W_tests0 ⟨fun _ => W.post ?_, fun e => (nomatch e)⟩
    refine W_Tuple (W_argsCons (W_local rfl (W_argsCons (W_CallName (W_global (v := .ref 442) rfl (W_callWithF rfl (W_argsCons (W_cell (c := L + 1) rfl (.inl (List.mem_append_right _ (.tail _ (.tail _ (.tail _ (.tail _ (.tail _ (.head _)))))))) (W_argsCons (W_local rfl (W_argsCons (W_boolC (W_argsCons (W_cell (c := L + 2) rfl (.inl (List.mem_append_right _ (.tail _ (.tail _ (.tail _ (.tail _ (.head _))))))) (W_argsNil ?_)))))))))))))))
    refine W_call0 ((law_folded_spec hT).le (by decide)) (fun g S b o e => S.keep _ _ (le _ _ (hG1 _ _ e))) fun v F g h' S1 k S2 ⟨r, e, hr⟩ => ?_
    subst e
    obtain ⟨X, S3, hX⟩ := S2.addNew S1 (fun b o e => le _ _ (hG1 _ _ e)) hr
    refine ⟨_, _, _, S3, W_argsNil (W_newTupleN (by rw [sizeLine_eq]; simp) fun q => ?_)⟩
    refine fun h S => ⟨_, _, _, S, fun _ h => h, rfl, (q, tup [.int n t, .ref r]) :: (X ++ T), by simp, ?_⟩
    rw [List.take_add_one, hn]
    exact FoldEl.snoc hys hX
  · rintro ys N r2 ⟨T, rfl, hys⟩ _
    rw [hpll, List.take_length] at hys
    obtain ⟨kvS, hkv1, hkvk, hkv3⟩ := hys.kvs
    refine W_argsNil (W_dictPairs (.inl (.head _)) (All2.mono (fun y kv ⟨t, u, e, h⟩ => ⟨t, u, e, .inl (.tail _ (List.mem_append_left _ h))⟩) hkv1) (by rw [hkvk]; decide) (by rw [← List.length_map (f := fun kv : Int × Value => kv.1), hkvk]; decide) fun aS naS => ?_)
    refine W.st (fun h S => St.freezeAll (R := (aS, dk (intKind prg w) kvS) :: (r2, lst ys) :: T) (N := (IrLed w L tx turk dq lf D1 (some (.int c t3)) none none none)) (by exact S)) (x := ?_)
    refine W_storeCell (c := L + 4) rfl (.tail (.tail .head)) ?_
    refine W.rebase fun G2 le2 B2 hin => ?_
    have hG2 : Le H G2 := fun b o e => le2 _ _ (hG1 _ _ e)
    have hDS : Has G2 aS (dk (intKind prg w) kvS) := hin (aS, dk (intKind prg w) kvS) (List.mem_append_left _ (List.mem_reverse.mpr (.head _)))
    have hVS : FoldKv w G2 (foldS f (stsOf false turk)) kvS pool := hkv3 G2 hG2 fun p hp => hin p (List.mem_append_left _ (List.mem_reverse.mpr (.tail _ (.tail _ hp))))
    clear hin hkv1 hkv3 hys
    have hopl2 := le2 _ _ hopl
    refine W.st (P' := []) ?_ fun h S => S.subP (P' := []) fun _ h => (nomatch h)
    -- full
    refine W_cons (W_AssignName (W_CallName (W_builtin rfl rfl (W_callWithT (W_argsCons (W_ListCompG (W_global (v := .ref 416) rfl ⟨pvs.length, _, fun i ys N => ∃ T, N = T ++ (IrLed w L tx turk dq lf D1 (some (.int c t3)) (some (.ref aS)) none none) ∧ FoldEl H (foldS f (stsOf true turk)) T ys (pool.take i), by rw [sizeLine_eq]; omega, rfl, .list (.inr ⟨_, hopl2, hpl⟩), ⟨[], rfl, .nil⟩, ?_, ?_⟩)))))))
    · rintro G' le C i v ys N hi hv ⟨T, rfl, hys⟩ _
      obtain ⟨n, t, hn, rfl⟩ := IntsAre.getV hpi hv
      refine W_tests0 ⟨fun _ => W.post ?_, fun e => (nomatch e)⟩
      refine W_Tuple (W_argsCons (W_local rfl (W_argsCons (W_CallName (W_global (v := .ref 442) rfl (W_callWithF rfl (W_argsCons (W_cell (c := L + 1) rfl (.inl (List.mem_append_right _ (.tail _ (.tail _ (.tail _ (.tail _ (.tail _ (.head _)))))))) (W_argsCons (W_local rfl (W_argsCons (W_boolC (W_argsCons (W_cell (c := L + 2) rfl (.inl (List.mem_append_right _ (.tail _ (.tail _ (.tail _ (.tail _ (.head _))))))) (W_argsNil ?_)))))))))))))))
      refine W_call0 ((law_folded_spec hT).le (by decide)) (fun g S b o e => S.keep _ _ (le _ _ (hG2 _ _ e))) fun v F g h' S1 k S2 ⟨r, e, hr⟩ => ?_
      subst e
      obtain ⟨X, S3, hX⟩ := S2.addNew S1 (fun b o e => le _ _ (hG2 _ _ e)) hr
      refine ⟨_, _, _, S3, W_argsNil (W_newTupleN (by rw [sizeLine_eq]; simp) fun q => ?_)⟩
      refine fun h S => ⟨_, _, _, S, fun _ h => h, rfl, (q, tup [.int n t, .ref r]) :: (X ++ T), by simp, ?_⟩
      rw [List.take_add_one, hn]
      exact FoldEl.snoc hys hX
    · rintro ys N r2 ⟨T, rfl, hys⟩ _
      rw [hpll, List.take_length] at hys
      obtain ⟨kvF, hkv1, hkvk, hkv3⟩ := hys.kvs
      refine W_argsNil (W_dictPairs (.inl (.head _)) (All2.mono (fun y kv ⟨t, u, e, h⟩ => ⟨t, u, e, .inl (.tail _ (List.mem_append_left _ h))⟩) hkv1) (by rw [hkvk]; decide) (by rw [← List.length_map (f := fun kv : Int × Value => kv.1), hkvk]; decide) fun aF naF => ?_)
      refine W.st (fun h S => St.freezeAll (R := (aF, dk (intKind prg w) kvF) :: (r2, lst ys) :: T) (N := (IrLed w L tx turk dq lf D1 (some (.int c t3)) (some (.ref aS)) none none)) (by exact S)) (x := ?_)
      refine W_storeCell (c := L + 5) rfl (.tail .head) ?_
      refine W.rebase fun G3 le3 B3 hin => ?_
      have hG3 : Le H G3 := fun b o e => le3 _ _ (hG2 _ _ e)
      have hDF : Has G3 aF (dk (intKind prg w) kvF) := hin (aF, dk (intKind prg w) kvF) (List.mem_append_left _ (List.mem_reverse.mpr (.head _)))
      have hVF : FoldKv w G3 (foldS f (stsOf true turk)) kvF pool := hkv3 G3 hG3 fun p hp => hin p (List.mem_append_left _ (List.mem_reverse.mpr (.tail _ (.tail _ hp))))
      clear hin hkv1 hkv3 hys
      have k13 : Le G1 G3 := fun b o e => le3 _ _ (le2 _ _ e)
      have hopl3 := le3 _ _ hopl2
      have rp3 : ∀ {P N : Led}, Rd G3 P N 416 (lst pvs) := .inr (.inr ⟨_, hopl3, hpl⟩)
      have rpI3 : ∀ {P N : Led}, Rd G3 P N 416 (lstI pool) := .inr (.inr ⟨_, hopl3, _, hpi, hpl⟩)
      obtain ⟨fdx, fdd, fsm, ffl, fd1, fd2, FF, _⟩ := id hFi
      have hxx : Has G3 x (ins 340 fdx) := FF.hx.keeps k13
      have hdx := FF.hd.keeps k13
      replace hDS := hDS.keeps le3
      replace hVS := hVS.keeps le3
      have hcp := pool_nonneg hcm
      refine W.st (P' := []) ?_ fun h S => S.subP (P' := []) fun _ h => (nomatch h)
      -- alike
      refine W_cons (W_If (W_isTrueCompare (W_CallMeth (W_local rfl (W_getMeth (cls_FoldIndex w) (.inr (.inr hxx)) (.inr (.inr hdx)) rfl rfl rfl (W_callWithF rfl (W_argsCons (W_cell (c := L + 3) rfl (.inl (.tail _ (.tail _ (.tail _ (.head _))))) (W_argsNil ?_)))))))))
      refine W_callE (N0 := []) ((fi_alike_spec hFi hsh hne hcp hlaw.h1).le (by decide)) (fun g S b o e => S _ _ (k13 _ _ e)) fun v N' g2 h' ⟨ga, ns, e, hns, hsrt, e2⟩ => ?_
      subst e e2
      refine W_ListFilter (W.post (W_CallName (W_builtin rfl rfl (W_callWithB (W_argsCons (W_global (v := .ref 416) rfl (W_argsNil (W_sortedI rpI3 (by decide) fun r2 ps hps hpsrt => ?_))))))))
      intro h S
      obtain ⟨us, hus, S'⟩ := S.opnI
      refine ⟨_, _, _, S'.freeze, us, ps, fun o => likeS f turk o c, rfl, _, rfl, .inl (.head _), hus, by rw [hps.length_eq]; decide, ?_, ?_⟩
      · intro G' le C t n hn
        obtain ⟨r3, hv3, hr3⟩ := hVS.at (hps.mem_iff.mp hn)
        obtain ⟨r4, hv4, hr4⟩ := hVS.at hcm
        refine W_tests1 (W_isTrueCompare (W_Subscript (W_cell (c := L + 4) rfl (.inl (.tail _ (.tail _ (.tail _ (.head _))))) (W_local rfl (W_itemD (isI w _ _) (.inr (.inr (hDS.keeps le))) hv3 ?_)))))
        refine W_Subscript (W_cell (c := L + 4) rfl (.inl (.tail _ (.tail _ (.tail _ (.head _))))) (W_cell (c := L + 3) rfl (.inl (.tail _ (.tail _ (.tail _ (.tail _ (.head _)))))) (W_itemD (isI w _ _) (.inr (.inr (hDS.keeps le))) hv4 ?_)))
        exact W_eqTT (.inr (.inr (hr3.keeps le))) (.inr (.inr (hr4.keeps le))) (W_truthyBool ⟨rfl, fun _ h => h, rfl, rfl⟩)
      · intro r ys hys
        have hlk := hlaw.like c hcm ns ps hns hsrt hps hpsrt
        refine W.clsI .head hys (W_neLL (.inl (.tail _ (.head _))) (.inl (.head _)) (W_truthyBool ⟨fun ht => ?_, fun hf => ?_⟩))
        · rw [← hlk] at ht
          simp at ht
        refine W.st (fun h S => (S.subP (P' := []) fun _ h => (nomatch h)).dropN.dropN) (x := W_nil ?_)
        clear hlk hf hys hus hpsrt hps hns hsrt
        -- mates
        refine W_cons (W_AssignFilter (W.post (W_CallName (W_builtin rfl rfl (W_callWithB (W_argsCons (W_global (v := .ref 416) rfl (W_argsNil (W_sortedI rpI3 (by decide) fun r5 ps hps hpsrt => ?_)))))))))
        intro h S
        obtain ⟨us, hus, S'⟩ := S.opnI
        refine ⟨_, _, _, S'.freeze, us, ps, fun o => likeF f turk o c, rfl, _, rfl, .inl (.head _), hus, by rw [hps.length_eq]; decide, ?_, ?_⟩
        · intro G' le C t n hn
          obtain ⟨r3, hv3, hr3⟩ := hVF.at (hps.mem_iff.mp hn)
          obtain ⟨r4, hv4, hr4⟩ := hVF.at hcm
          refine W_tests1 (W_isTrueCompare (W_Subscript (W_cell (c := L + 5) rfl (.inl (.tail _ (.head _))) (W_local rfl (W_itemD (isI w _ _) (.inr (.inr (hDF.keeps le))) hv3 ?_)))))
          refine W_Subscript (W_cell (c := L + 5) rfl (.inl (.tail _ (.head _))) (W_cell (c := L + 3) rfl (.inl (.tail _ (.tail _ (.tail _ (.head _))))) (W_itemD (isI w _ _) (.inr (.inr (hDF.keeps le))) hv4 ?_)))
          exact W_eqTT (.inr (.inr (hr3.keeps le))) (.inr (.inr (hr4.keeps le))) (W_truthyBool ⟨rfl, fun _ h => h, rfl, rfl⟩)
        · intro mr ys hys
          refine W.clsI .head hys (W.st (fun h S => (S.subP (P' := []) fun _ h => (nomatch h)).freeze) (x := ?_))
          -- the second test
          refine W_cut (fun P N m => N = IrLed w L tx turk dq lf D1 (some (.int c t3)) (some (.ref aS)) (some (.ref aF)) none ∧ m = ([("deck", some (.ref dq)), ("data", some (.ref dd)), ("index", some (.ref x)), ("mates", some (.ref mr)), ("due", none), ("closed", none)] : Vars)) ?_ ?_
          · obtain ⟨r4, hv4, hr4⟩ := hVF.at hcm
            obtain ⟨o4, ho4, vs4, hi4, ht4⟩ := id hr4
            have hl4 := hi4.length
            have hs4 := hsh.len (stsOf true turk) c
            refine W_If (W_isTrueAnd (W_andCons (W_isTrueCompare (W_CallName (W_builtin rfl rfl (W_callWithB (W_argsCons (W_Subscript (W_cell (c := L + 5) rfl (.inl (.tail _ (.head _))) (W_cell (c := L + 3) rfl (.inl (.tail _ (.tail _ (.tail _ (.head _))))) (W_itemD (isI w _ _) (.inr (.inr hDF)) hv4 ?_)))))))))))
            refine W_argsNil (W_lenT (.inr (.inr ⟨_, ho4, ht4⟩)) (by omega) fun t4 => W_int fun t5 => W_gt (W_truthyBool ⟨fun h1 => ?_, fun h1 => ⟨fun e => (nomatch e), fun _ => W_nil ⟨rfl, rfl⟩⟩⟩))
            have h1 := of_decide_eq_true h1
            refine W_andCons (W_isTrueCompare (W_CallMeth (W_local rfl (W_getMeth (cls_FoldIndex w) (.inr (.inr hxx)) (.inr (.inr hdx)) rfl rfl rfl (W_callWithF rfl (W_argsCons (W_Subscript (W_cell (c := L + 5) rfl (.inl (.tail _ (.head _))) (W_cell (c := L + 3) rfl (.inl (.tail _ (.tail _ (.tail _ (.head _))))) (W_itemD (isI w _ _) (.inr (.inr hDF)) hv4 ?_))))))))))
            refine W_argsNil (W_callE (N0 := []) ((fi_unfolded_spec hFi hlaw.h2).le (by decide)) (fun g S => ⟨fun b o e => S _ _ (k13 _ _ e), hr4.keeps S⟩) fun v N' g2 h' ⟨gu, ns, e, hns, hsrt, e2⟩ => ?_)
            subst e e2
            have hu := hlaw.unf c hcm (by rw [← hl4]; exact h1) ns ps hns hsrt hps hpsrt
            refine W_local rfl (W_neLL (.inl (.head _)) (.inr (.inl (.head _))) (W_truthyBool ⟨fun h2 => ?_, fun h2 => ⟨fun e => (nomatch e), fun _ => ?_⟩⟩))
            · rw [← hu] at h2
              simp at h2
            · exact W.st (fun h S => S.dropN) (x := W_nil ⟨rfl, rfl⟩)
          · rintro P N m ⟨rfl, rfl⟩
            clear hys hus hpsrt hps
            -- some
            refine W_cons (W_AssignName (W_List (W_argsCons (W_cell (c := L + 3) rfl (.inl (.tail _ (.tail _ (.tail _ (.head _))))) (W_argsCons (W_Subscript (W_global (v := .ref 416) rfl (W_CallName (W_global (v := .ref 428) rfl (W_callWithF rfl (W_argsCons (W_local rfl (W_argsCons (W_CallName (W_builtin rfl rfl (W_callWithB (W_argsCons (W_global (v := .ref 416) rfl (W_argsNil (W_lenL rp3 (by omega) fun t1 => ?_))))))))))))))))))))
            rw [hpl14]
            refine W_argsNil (W_draw (X := [_, _, _, _, _, _]) (Y := []) hD1 (by decide) hdk fun t6 => ?_)
            obtain ⟨c2, hcd2, hcm2, hc20, hc263⟩ := pool_draw (D := D1)
            generalize (drawS D1 14).2 = D2 at *
            refine W_itemI rpI3 hc20 hcd2 hc263 fun t7 => W_argsNil (W_newList (by rw [sizeLine_eq]; simp) fun so => ?_)
            refine W.clsI .head (.cons _ _ (.cons _ _ .nil)) (W.st (fun h S => (S.subP (P' := []) fun _ h => (nomatch h)).freeze) (x := ?_))
            refine W_storeCell (c := L + 6) rfl .head ?_
            refine W.rebase fun G4 le4 B4 hin => ?_
            have hSO : Has G4 so (lstI [c, c2]) := hin (so, lstI [c, c2]) (.head _)
            clear hin
            have k14 : Le G1 G4 := fun b o e => le4 _ _ (k13 _ _ e)
            have hopl4 := le4 _ _ hopl3
            have rpI4 : ∀ {P N : Led}, Rd G4 P N 416 (lstI pool) := .inr (.inr ⟨_, hopl4, _, hpi, hpl⟩)
            replace hxx := hxx.keeps le4
            replace hdx := hdx.keeps le4
            replace hDS := hDS.keeps le4
            replace hVS := hVS.keeps le4
            replace hDF := hDF.keeps le4
            replace hVF := hVF.keeps le4
            refine W.st (P' := []) ?_ fun h S => S.subP (P' := []) fun _ h => (nomatch h)
            -- due
            refine W_cons (W_AssignFilterC (W.post (W_CallName (W_builtin rfl rfl (W_callWithB (W_argsCons (W_global (v := .ref 416) rfl (W_argsNil (W_sortedI rpI4 (by decide) fun r6 ps hps hpsrt => ?_)))))))))
            intro h S
            obtain ⟨us, hus, S'⟩ := S.opnI
            refine ⟨_, _, _, S'.freeze, us, ps, dueP f turk [c, c2], rfl, _, rfl, .inl (.head _), hus, by rw [hps.length_eq]; decide, ?_, ?_⟩
            · intro G' le C cc t n hn
              refine W_tests1 (W_isTrueCompare (W_ListFilter (W.post (W_cell (c := L + 6) rfl (.inl (.tail _ (.head _))) ?_))))
              intro h S
              obtain ⟨oso, hoso, svs, hsi, hsl⟩ := hSO.keeps le
              refine ⟨_, _, _, S, svs, [c, c2], mateP f turk n, rfl, _, rfl, .inr ⟨_, hoso, hsl⟩, hsi, by simp, ?_, ?_⟩
              · intro G5 le5 C5 u n2 hn2
                have hn2p : n2 ∈ pool := by
                  rcases List.mem_cons.mp hn2 with rfl | h
                  · exact hcm
                  · rw [List.mem_singleton.mp h]; exact hcm2
                obtain ⟨r3, hv3, hr3⟩ := hVS.at (hps.mem_iff.mp hn)
                obtain ⟨r4, hv4, hr4⟩ := hVS.at hn2p
                obtain ⟨q3, hw3, hq3⟩ := hVF.at (hps.mem_iff.mp hn)
                obtain ⟨q4, hw4, hq4⟩ := hVF.at hn2p
                have k5 : Le G4 G5 := fun b o e => le5 _ _ (le _ _ e)
                obtain ⟨o3, ho3, vs3, hi3, ht3⟩ := hq3.keeps k5
                have hl3 := hi3.length
                have hs3 := hsh.len (stsOf true turk) n
                refine W_tests1 (W_isTrueOr (W_orCons (W_isTrueCompare (W_Subscript (W_cell (c := L + 4) rfl (.inl (.tail _ (.tail _ (.tail _ (.head _))))) (W_cell (c := cc) rfl (.inl (.head _)) (W_itemD (isI w _ _) (.inr (.inr (hDS.keeps k5))) hv3 ?_)))))))
                refine W_Subscript (W_cell (c := L + 4) rfl (.inl (.tail _ (.tail _ (.tail _ (.head _))))) (W_local rfl (W_itemD (isI w _ _) (.inr (.inr (hDS.keeps k5))) hv4 ?_)))
                refine W_eqTT (.inr (.inr (hr3.keeps k5))) (.inr (.inr (hr4.keeps k5))) (W_truthyBool ⟨fun h1 => ?_, fun h1 => ⟨?_, fun _ h => h, rfl, rfl⟩⟩)
                · refine W_orCons (W_isTrueAnd (W_andCons (W_isTrueCompare (W_CallName (W_builtin rfl rfl (W_callWithB (W_argsCons (W_Subscript (W_cell (c := L + 5) rfl (.inl (.tail _ (.tail _ (.head _)))) (W_cell (c := cc) rfl (.inl (.head _)) (W_itemD (isI w _ _) (.inr (.inr (hDF.keeps k5))) hw3 ?_)))))))))))
                  refine W_argsNil (W_lenT (.inr (.inr ⟨_, ho3, ht3⟩)) (by omega) fun t4 => W_int fun t5 => W_gt (W_truthyBool ⟨fun h2 => ?_, fun h2 => ⟨fun _ => W_orNil ⟨?_, fun _ h => h, rfl, rfl⟩, fun e => (nomatch e)⟩⟩))
                  · refine W_andCons (W_isTrueCompare (W_Subscript (W_cell (c := L + 5) rfl (.inl (.tail _ (.tail _ (.head _)))) (W_cell (c := cc) rfl (.inl (.head _)) (W_itemD (isI w _ _) (.inr (.inr (hDF.keeps k5))) hw3 ?_)))))
                    refine W_Subscript (W_cell (c := L + 5) rfl (.inl (.tail _ (.tail _ (.head _)))) (W_local rfl (W_itemD (isI w _ _) (.inr (.inr (hDF.keeps k5))) hw4 ?_)))
                    refine W_eqTT (.inr (.inr (hq3.keeps k5))) (.inr (.inr (hq4.keeps k5))) (W_truthyBool ⟨fun h3 => W_andNil ⟨fun e => (nomatch e), fun _ => ⟨?_, fun _ h => h, rfl, rfl⟩⟩, fun h3 => ⟨fun _ => W_orNil ⟨?_, fun _ h => h, rfl, rfl⟩, fun e => (nomatch e)⟩⟩)
                    · unfold mateP likeS likeF
                      rw [h1, h3, ← hl3, h2]; rfl
                    · unfold mateP likeS likeF
                      rw [h1, h3]; simp
                  · unfold mateP likeS likeF
                    rw [h1, ← hl3, h2]; rfl
                · unfold mateP likeS
                  rw [h1]; rfl
              · intro r ys hys
                refine W_List (W_argsNil (W_newList (by rw [sizeLine_eq]; simp) fun e2 => ?_))
                refine W.clsI .head .nil (W.clsI (.tail .head) hys (W_neLL (.inl (.tail _ (.head _))) (.inl (.head _)) ?_))
                exact W.st (fun h S => S.dropN.dropN) (x := W_truthyBool ⟨rfl, fun _ h => h, rfl, rfl⟩)
            · intro due ys hys
              refine W.clsI .head hys (W.st (fun h S => (S.subP (P' := []) fun _ h => (nomatch h)).freeze) (x := ?_))
              refine W.rebase fun G5 le5 B5 hin => ?_
              have hDU : Has G5 due (lstI (ps.filter (dueP f turk [c, c2]))) := hin (due, lstI (ps.filter (dueP f turk [c, c2]))) (.head _)
              clear hin
              have k15 : Le G1 G5 := fun b o e => le5 _ _ (k14 _ _ e)
              replace hxx := hxx.keeps le5
              replace hdx := hdx.keeps le5
              refine W.st (P' := []) ?_ fun h S => S.subP (P' := []) fun _ h => (nomatch h)
              -- closed
              refine W_cons (W_AssignName (W_CallMeth (W_local rfl (W_getMeth (cls_FoldIndex w) (.inr (.inr hxx)) (.inr (.inr hdx)) rfl rfl rfl (W_callWithF rfl (W_argsCons (W_CallName (W_global (v := .ref 159) rfl (W_callWithF rfl (W_argsCons (W_cell (c := L + 6) rfl (.inl (.head _)) (W_argsNil ?_))))))))))))
              refine W_call (N0 := []) ((range_set_of_spec (hSO.keeps le5) (by simp)).le (by decide)) (fun g S => S.keep) fun v N' g2 h' S1 k S2 _ ⟨y0, dy0, b0, qs, e, hq1, hq2, e2⟩ => ?_
              subst e e2
              obtain ⟨bn, hbn, hbns, hbnl, hb64, hnext⟩ := hlaw.closed c hcm c2 hcm2 qs hq1 hq2
              rw [hbn] at S2
              refine ⟨_, _, _, St.freezeAll S2, W_argsNil (W.rebase fun G6 le6 B6 hin => ?_)⟩
              have hC0 : CsAt G6 y0 (flat bn) := ⟨dy0, b0, hin (y0, _) (.tail _ (.tail _ (.head _))), hin (dy0, att 900 [("bounds", some (.ref b0))]) (.tail _ (.head _)), hin (b0, lstI (flat bn)) (.head _)⟩
              clear hin
              have k16 : Le G1 G6 := fun b o e => le6 _ _ (k15 _ _ e)
              refine W_call (N0 := []) ((fi_closed_spec (hFi.keeps k16) hC0 hsh hne hbns hbnl hlaw.h1 hlaw.h2 hlaw.hk1 hlaw.hk2 hlaw.hl1 hlaw.hl2 hb64).le (by decide)) (fun g S => S.keep) fun v N' g2 h' S1 k S2 _ ⟨y1, dy1, b1, qs1, e, hq1, hq2, e2⟩ => ?_
              subst e e2
              obtain ⟨bn1, hbn1, hbns1, htame, hb641, hdue, hnext1⟩ := hnext qs1 hq1 hq2
              rw [hbn1] at S2
              refine ⟨_, _, _, St.freezeAll S2, W_store (W.rebase fun G7 le7 B7 hin => ?_)⟩
              have hC1 : CsAt G7 y1 (flat bn1) := ⟨dy1, b1, hin (y1, _) (.tail _ (.tail _ (.head _))), hin (dy1, att 900 [("bounds", some (.ref b1))]) (.tail _ (.head _)), hin (b1, lstI (flat bn1)) (.head _)⟩
              clear hin
              have k17 : Le G1 G7 := fun b o e => le7 _ _ (k15 _ _ e)
              replace hxx := hxx.keeps le7
              replace hdx := hdx.keeps le7
              replace hDU := hDU.keeps le7
              refine W_cons (W_Return (W_And2 (W_Compare1 (W_CallName (W_global (v := .ref 166) rfl (W_callWithF rfl (W_argsCons (W_local rfl (W_argsNil ?_)))))))))
              refine W_callE (N0 := []) ((range_codes_spec hC1 htame).le (by decide)) (fun g S => S) fun v N' g2 h' ⟨rr, e, e2⟩ => ?_
              subst e e2
              refine W_local rfl (W_eqLL (.inl (.head _)) (.inr (.inr hDU)) ⟨_, rfl, fun h1 => ?_, fun _ => ?_⟩)
              · rw [hdue ps hps hpsrt] at h1
                simp at h1
              refine W.st (fun h S => S.dropN) (x := ?_)
              refine W_CallMeth (W_CallMeth (W_local rfl (W_getMeth (cls_FoldIndex w) (.inr (.inr hxx)) (.inr (.inr hdx)) rfl rfl rfl (W_callWithF rfl (W_argsCons (W_local rfl (W_argsNil ?_)))))))
              refine W_call (N0 := []) ((fi_closed_spec (hFi.keeps k17) hC1 hsh hne hbns1 (by have := htame.len; omega) hlaw.h1 hlaw.h2 hlaw.hk1 hlaw.hk2 hlaw.hl1 hlaw.hl2 hb641).le (by decide)) (fun g S => S.keep) fun v N' g2 h' S1 k S2 _ ⟨y2, dy2, b2, qs2, e, hq1, hq2, e2⟩ => ?_
              subst e e2
              rw [hnext1 qs2 hq1 hq2] at S2
              refine ⟨_, _, _, St.freezeAll S2, ?_⟩
              refine W_getMeth (cls_CodeSet w) (.inr (.inl (.tail _ (.tail _ (.head _))))) (.inr (.inl (.tail _ (.head _)))) rfl rfl rfl (W_callWithF rfl (W_argsCons (W_local rfl (W_argsNil (W.rebase fun G8 le8 B8 hin => ?_)))))
              have hC2 : CsAt G8 y2 (flat bn1) := ⟨dy2, b2, hin (y2, _) (.tail _ (.tail _ (.head _))), hin (dy2, att 900 [("bounds", some (.ref b2))]) (.tail _ (.head _)), hin (b2, lstI (flat bn1)) (.head _)⟩
              refine W_call0E ((cs_equals_spec hC2 (hC1.keeps le8)).le (by decide)) (fun g S => S) fun v F g2 h' e => fun h S => ?_
              subst e
              exact ⟨_, S.subP (P' := []) (fun _ h => (nomatch h)), Ends.nil, by simp [retv]⟩
end Nt
end
section
open PySem PySem.W PyProof.Rows PySem.Calls
set_option maxRecDepth 100000
set_option autoImplicit false
set_option linter.unusedVariables false
namespace Nt
section
variable {w : World} {G : Heap} {L : Addr} {d : Nat} {P N : Led} {m : Vars} {env : Env} {Q : Value → Led → Led → Vars → Prop}
theorem W_takeAny {v i : Expr} {l r : Addr} {vs : List Value} {n : Nat} {b : Tok} (hl : Rd G P N l (lst vs)) (hr : Rd G P N r (slc .none (.int n b))) (hsz : vs.length ≤ 100000) (q : ∀ t, Q (.ref t) P ((t, lst (vs.take n)) :: N) m)
    (hs : subscripted i false (.ref l) (.ref r) = operate [.ref r, .ref l] (getItem (.ref l) (.ref r)) := by with_unfolding_all rfl) : W w G L d (subscriptTail v i (.ref l) (.ref r)) P N m Q :=
  W_sliceL hl hr .none (.int _ _) hsz (fun t => by
    rw [slicePick_upto']
    exact q t) hs
theorem W_tupleTI {t : Addr} {ns : List Int} (ht : Rd G P N t (tupI ns)) (q : Q (.ref t) P N m) : W w G L d (call (.type "tuple") [.ref t]) P N m Q := W.mk fun _ s _ S => by
  obtain ⟨o, ho, vs, hi, hl⟩ := S.rd ht
  exact call_tuple_tup (Has.isTup ⟨o, ho, hl⟩) (Done.here (tk := s.toks) S q)
noncomputable def pairD (p : Int × Int) : PyData := .tuple [.int p.1, .int p.2]
theorem readsAllP {h : Heap} {vs : List Value} {ps : List (Int × Int)} (x : All2 (fun v (p : Int × Int) => ∃ t, v = .ref t ∧ Has h t (tupI [p.1, p.2])) vs ps) : ReadsAll h vs (ps.map pairD) [] := by
  induction x with
  | nil => exact .nil
  | cons a _ ih =>
    obtain ⟨t, rfl, o, ho, us, hu, hl⟩ := a
    have := readsT (ns := [_, _]) ⟨o, ho, us, hu, hl⟩
    exact .cons (as := []) (bs := []) this ih
theorem canLayP : ∀ ps : List (Int × Int), PyData.canLayAll0 (ps.map pairD) = true
  | [] => rfl
  | _ :: r => by simp [PyData.canLayAll0, PyData.canLay0, pairD, canLayP r]
theorem depthP : ∀ ps : List (Int × Int), PyData.depthAll (ps.map pairD) ≤ 1
  | [] => by simp [PyData.depthAll]
  | _ :: r => by
    have := depthP r
    simp [PyData.depthAll, PyData.depth, pairD]; omega
theorem sameP : ∀ ps : List (Int × Int), PySem.Spec.sameAll (ps.map pairD) (ps.map pairD) = true
  | [] => rfl
  | _ :: r => by simp [PySem.Spec.sameAll, PySem.Spec.same, pairD, sameP r]
theorem shapedP (ps : List (Int × Int)) : SeqAt.shaped (.list (ps.map pairD)) = true := by
  have := depthP ps
  simp [SeqAt.shaped, PyData.canLay0, PyData.depth, canLayP]; omega
/-- two lists of pairs of ints, equal ones -/
theorem W_neLP {a b : Addr} {vs us : List Value} {ps : List (Int × Int)} (ha : Rd G P N a (lst vs)) (hva : All2 (PairRd G P N) vs ps) (hb : Rd G P N b (lst us)) (hub : All2 (PairRd G P N) us ps) (q : Q (.bool false) P N m) : W w G L d (compareOp .NotEq (.ref a) (.ref b)) P N m Q := by
  have rd : ∀ {a : Addr} {vs : List Value}, Rd G P N a (lst vs) → All2 (PairRd G P N) vs ps → ∀ h, St w G L P N m h → Reads h (.ref a) (.list (ps.map pairD)) [a] := fun {a vs} ha hva h S => by
    obtain ⟨o, ho, n, rfl⟩ := S.rd ha
    exact .list ho rfl rfl (readsAllP (All2.mono (fun v p ⟨t, e, x⟩ => ⟨t, e, S.rd x⟩) hva))
  refine W_neData (fun h S => rd ha hva h S) (fun h S => rd hb hub h S) (shapedP _) (shapedP _) (SeqAt.noMix_of_shape (.list (.tuples .int)) rfl _ _ (list_map_has fun _ => rfl) (list_map_has fun _ => rfl)) ?_
  rw [show PySem.Spec.same (.list (ps.map pairD)) (.list (ps.map pairD)) = true by simp only [PySem.Spec.same]; exact sameP ps]
  exact q
end
end Nt
end
section
open PySem PySem.W PyProof.Rows PySem.Calls
set_option maxRecDepth 100000
set_option autoImplicit false
set_option maxHeartbeats 8000000
set_option linter.unusedVariables false
namespace Nt
noncomputable def tabPut (f : Int → Option Row) (s : List Int × List (Option Row)) (c : Int) : List Int × List (Option Row) := (putStarts s.1 c, putVals s.1 s.2 c (f c))
noncomputable def tabAt (f : Int → Option Row) (ks : List Int) : List Int × List (Option Row) := ks.foldl (tabPut f) ([0], [none])
theorem tabAt_snoc {f : Int → Option Row} {ks : List Int} {c : Int} : tabAt f (ks ++ [c]) = tabPut f (tabAt f ks) c := by
  unfold tabAt; rw [List.foldl_append]; rfl
/-- what the plain law owes the walk, of a table -/
structure TabOk (T : List (Int × Row)) (ks : List Int) : Prop where
  len : T.length < 64
  srt : ∀ ns : List Int, ns.Perm (T.map (·.1)) → ns.Pairwise (· ≤ ·) → ns = ks
  nonempty : ks ≠ []
  put : ∀ (i : Nat) (c : Int), ks[i]? = some c → ∃ r, fT T c = some r ∧ PutOk (tabAt (fT T) (ks.take i)).1 (tabAt (fT T) (ks.take i)).2 c r
  good : Good (tabAt (fT T) ks).1 (tabAt (fT T) ks).2 (fT T)
  tl : (tabAt (fT T) ks).1.length = (tabAt (fT T) ks).2.length
  ts : (tabAt (fT T) ks).1.length ≤ 900
  rows : setRows (tabAt (fT T) ks).1 (tabAt (fT T) ks).2 = ks.map fun c => (c, c, fT T c)
  kl : ks.length ≤ 100
  kp : ∀ c ∈ ks, 0 ≤ c ∧ c ≤ 1000000 ∧ (fT T c).isSome = true
  short : Short (fT T)
  ne : ∀ ss c, foldS (fT T) ss c ≠ []
  idem : ∀ full turk, ∀ c ∈ pool, txt (fT T) (stsOf full turk) (foldS (fT T) (stsOf full turk) c) = foldS (fT T) (stsOf full turk) c
  ix : ∀ turk, IxLaw (fT T) turk (ixOne (fT T) turk ks) (ixMany (fT T) turk ks)
theorem St.pinAll {w : World} {G : Heap} {L : Addr} {P N : Led} {m : Vars} {h : Heap} (S : St w G L P N m h) : ∀ (R : Led), (∀ p ∈ R, Has h p.1 p.2 ∧ p.1 ≠ L ∧ p.1 ∉ N.map (·.1)) → St w G L (R ++ P) N m h
  | [], _ => S
  | p :: R, hR => (S.pinAll R fun q hq => hR q (.tail _ hq)).pin (hR p (.head _)).1 (hR p (.head _)).2.1 (hR p (.head _)).2.2
theorem offN {a : Addr} {X Y : Led} (h1 : a ∉ X.map (·.1)) (h2 : a ∉ Y.map (·.1)) : a ∉ (X ++ Y).map (·.1) := fun q => by
  rw [List.map_append] at q
  exact (List.mem_append.mp q).elim h1 h2
theorem ToldKv.keys {w : World} {h : Heap} {kvs : List (Int × Value)} {T : List (Int × Row)} (x : ToldKv w h kvs T) : kvs.map (·.1) = T.map (·.1) := by
  unfold ToldKv at x
  induction x with
  | nil => rfl
  | cons a _ ih => rw [List.map_cons, List.map_cons, ih, a.1]
theorem toldS_ok {D : Deck} (h : DeckOk D) : DeckOk (toldS D).2 := by
  unfold toldS
  dsimp only
  split
  · exact drawS_ok (drawS_ok (drawS_ok (drawS_ok (drawS_ok h))))
  · exact drawS_ok (drawS_ok (drawS_ok (drawS_ok h)))
theorem txt_idem {f : Int → Option Row} {ss : List Str} {ts : List Int} (h : ∀ c ∈ ts, txt f ss (foldS f ss c) = foldS f ss c) : txt f ss (txt f ss ts) = txt f ss ts := by
  induction ts with
  | nil => rfl
  | cons c r ih =>
    have e : txt f ss (c :: r) = foldS f ss c ++ txt f ss r := rfl
    rw [e]
    unfold txt at *
    rw [List.flatMap_append, h c (.head _), ih fun z hz => h z (.tail _ hz)]
theorem lawGo_len (f : Int → Option Row) (ss : List Str) (b : Bool) (goal text : List Int) : ∀ a, (lawGo f ss b goal text a).length ≤ text.length - a := by
  intro a
  induction a using lawGo.induct f ss b goal text with
  | case1 a h e r he h2 ih =>
    rw [lawGo, dif_pos h, he]
    dsimp only
    rw [dif_pos h2, List.length_cons]
    omega
  | case2 a h e r he h2 ih =>
    rw [lawGo, dif_pos h, he]
    dsimp only
    rw [dif_neg h2]
    omega
  | case3 a h he ih =>
    rw [lawGo, dif_pos h, he]
    dsimp only
    omega
  | case4 a h => rw [lawGo, dif_neg h]; simp
inductive I28_1 (w : World) (sc : Addr) (L : Addr) (dq : Addr) (lf : Addr) (x : Addr) (mp : Addr) (ta : Addr) (G1 : Heap) (ks : List Int) (D1 : Deck) (f : Int → Option Row) (N : Led) (m : Vars) : Prop
  | mk (cd : Option Value) (rm : Addr) (rdx : Addr) (sa : Addr) (va : Addr) (n : Nat) (hh1 : n ≤ 500) (hh2 : N = MapLed w G1 mp rm rdx n sa va (tabAt f ks).1 (tabAt f ks).2 ++ (DeckLed w dq lf D1 ++ [(L + 1, cellp (some (.ref dq)))])) (hh3 : m = ([("script", some (.ref sc)), ("data", some (.ref x)), ("told", some (.ref ta)), ("code", cd), ("text", none), ("is_turkic", none), ("folded", none), ("is_full", none), ("fold", none), ("at", none), ("part", none), ("mate", none), ("is_match", none)] : Vars))
inductive I28_3 (w : World) (mp : Addr) (G1 : Heap) (f : Int → Option Row) (ms : List Int) (i : Nat) (X : Led) : Prop
  | mk (rm : Addr) (rdx : Addr) (sa : Addr) (va : Addr) (n : Nat) (hh1 : n ≤ 5 + 2 * i) (hh2 : X = MapLed w G1 mp rm rdx n sa va (tabAt f (ms.take i)).1 (tabAt f (ms.take i)).2)
inductive I28_2 (w : World) (sc : Addr) (L : Addr) (dq : Addr) (lf : Addr) (x : Addr) (mp : Addr) (ta : Addr) (G1 : Heap) (D1 : Deck) (f : Int → Option Row) (ms : List Int) (i : Nat) (N : Led) (m : Vars) : Prop
  | mk (cd : Option Value) (X : Led) (hh1 : N = X ++ (DeckLed w dq lf D1 ++ [(L + 1, cellp (some (.ref dq)))])) (hh2 : ((i = 0 ∧ X = [(mp, dk (strKind prg w) ([] : List (Str × Value)))]) ∨ (I28_3 w mp G1 f ms i X))) (hh3 : m = ([("script", some (.ref sc)), ("data", some (.ref x)), ("told", some (.ref ta)), ("code", cd), ("text", none), ("is_turkic", none), ("folded", none), ("is_full", none), ("fold", none), ("at", none), ("part", none), ("mate", none), ("is_match", none)] : Vars))
inductive I28_4 (w : World) (L : Addr) (dq : Addr) (lf : Addr) (ys : List Value) (N : Led) : Prop
  | mk (D' : Deck) (ts : List Int) (hh1 : DeckOk D') (hh2 : IntsAre ys ts) (hh3 : (∀ c ∈ ts, c ∈ pool)) (hh4 : N = DeckLed w dq lf D' ++ [(L + 1, cellp (some (.ref dq)))])
inductive I28_5 (w : World) (sc : Addr) (L : Addr) (dq : Addr) (lf : Addr) (x : Addr) (ta : Addr) (f : Int → Option Row) (cd : Option Value) (tx : Addr) (ts : List Int) (D3 : Deck) (turk : Bool) (N : Led) (m : Vars) : Prop
  | mk (fo : Addr) (a : Option Value) (b : Option Value) (T : Led) (hh1 : N = T ++ (DeckLed w dq lf D3 ++ [(L + 1, cellp (some (.ref dq)))])) (hh2 : (fo, lstI (txt f (stsOf true turk) ts)) ∈ T) (hh3 : m = ([("script", some (.ref sc)), ("data", some (.ref x)), ("told", some (.ref ta)), ("code", cd), ("text", some (.ref tx)), ("is_turkic", some (.bool turk)), ("folded", some (.ref fo)), ("is_full", a), ("fold", b), ("at", none), ("part", none), ("mate", none), ("is_match", none)] : Vars))
inductive I28_6 (w : World) (sc : Addr) (L : Addr) (dq : Addr) (lf : Addr) (x : Addr) (ta : Addr) (f : Int → Option Row) (cd : Option Value) (tx : Addr) (ts : List Int) (D3 : Deck) (turk : Bool) (i : Nat) (N : Led) (m : Vars) : Prop
  | mk (a : Option Value) (b : Option Value) (fo' : Option Value) (T : Led) (hh1 : N = T ++ (DeckLed w dq lf D3 ++ [(L + 1, cellp (some (.ref dq)))])) (hh2 : (i = 2 → ∃ fo, fo' = some (.ref fo) ∧ (fo, lstI (txt f (stsOf true turk) ts)) ∈ T)) (hh3 : m = ([("script", some (.ref sc)), ("data", some (.ref x)), ("told", some (.ref ta)), ("code", cd), ("text", some (.ref tx)), ("is_turkic", some (.bool turk)), ("folded", fo'), ("is_full", a), ("fold", b), ("at", none), ("part", none), ("mate", none), ("is_match", none)] : Vars))
inductive I28_7 (w : World) (x : Addr) (f : Int → Option Row) (turk : Bool) (q1 : Addr) (q2 : Addr) (q3 : Addr) (i : Nat) (v : Value) : Prop
  | mk (b : Bool) (fa : Addr) (q : Addr) (hh1 : v = .ref q) (hh2 : (q, tup [.bool b, .ref fa]) ∈ [(q3, tup [.ref q1, .ref q2]), (q2, tup [.bool true, .ref 264]), (q1, tup [.bool false, .ref 256])]) (hh3 : keepIn (KK w) (.ref fa) = true) (hh4 : (∀ {tx : Addr} {text : List Int} {H : Heap}, DataAt w H x f → text.length ≤ 1000 → (∀ c ∈ text, 0 ≤ c) → Fn w 15 (.ref fa) [.ref tx, .ref x, .bool turk] [] (fun G => Le H G ∧ Has G tx (lstI text)) (fun _ v N' _ => ∃ r, v = .ref r ∧ N' = [(r, lstI (txt f (stsOf b turk) text))]))) (hh5 : (i + 1 = 2 → b = true))
inductive I28_8 (w : World) (sc : Addr) (L : Addr) (dq : Addr) (lf : Addr) (x : Addr) (ta : Addr) (cd : Option Value) (tx : Addr) (turk : Bool) (fo : Addr) (a : Option Value) (b : Option Value) (at0 : Int) (N : Led) (m : Vars) : Prop
  | mk (pr : Addr) (part : List Int) (D' : Deck) (t5 : Tok) (hh1 : DeckOk D') (hh2 : part.length ≤ 8) (hh3 : (∀ c ∈ part, 0 ≤ c)) (hh4 : N = (pr, lstI part) :: (DeckLed w dq lf D' ++ [(L + 1, cellp (some (.ref dq)))])) (hh5 : m = ([("script", some (.ref sc)), ("data", some (.ref x)), ("told", some (.ref ta)), ("code", cd), ("text", some (.ref tx)), ("is_turkic", some (.bool turk)), ("folded", some (.ref fo)), ("is_full", a), ("fold", b), ("at", some (.int at0 t5)), ("part", some (.ref pr)), ("mate", none), ("is_match", none)] : Vars))
inductive I28_9 (w : World) (sc : Addr) (L : Addr) (dq : Addr) (lf : Addr) (x : Addr) (ta : Addr) (cd : Option Value) (tx : Addr) (turk : Bool) (fo : Addr) (a : Option Value) (b : Option Value) (at0 : Int) (t5 : Tok) (N : Led) (m : Vars) : Prop
  | mk (pr : Addr) (X : Led) (part : List Int) (D' : Deck) (hh1 : DeckOk D') (hh2 : part.length ≤ 8) (hh3 : (∀ c ∈ part, 0 ≤ c)) (hh4 : N = ((pr, lstI part) :: X) ++ (DeckLed w dq lf D' ++ [(L + 1, cellp (some (.ref dq)))])) (hh5 : m = ([("script", some (.ref sc)), ("data", some (.ref x)), ("told", some (.ref ta)), ("code", cd), ("text", some (.ref tx)), ("is_turkic", some (.bool turk)), ("folded", some (.ref fo)), ("is_full", a), ("fold", b), ("at", some (.int at0 t5)), ("part", some (.ref pr)), ("mate", none), ("is_match", none)] : Vars))
inductive I28_10 (w : World) (sc : Addr) (L : Addr) (dq : Addr) (lf : Addr) (x : Addr) (ta : Addr) (cd : Option Value) (tx : Addr) (turk : Bool) (fo : Addr) (a : Option Value) (b : Option Value) (at0 : Int) (t5 : Tok) (pr : Addr) (D5 : Deck) (N : Led) (m : Vars) : Prop
  | mk (u : Option Value) (v : Option Value) (X : Led) (hh1 : N = X ++ (DeckLed w dq lf D5 ++ [(L + 1, cellp (some (.ref dq)))])) (hh2 : m = ([("script", some (.ref sc)), ("data", some (.ref x)), ("told", some (.ref ta)), ("code", cd), ("text", some (.ref tx)), ("is_turkic", some (.bool turk)), ("folded", some (.ref fo)), ("is_full", a), ("fold", b), ("at", some (.int at0 t5)), ("part", some (.ref pr)), ("mate", u), ("is_match", v)] : Vars))
inductive I28_12 (G5 : Heap) (v : Value) : Prop
  | mk (mt : Addr) (ms : List Int) (hh1 : v = .ref mt) (hh2 : Has G5 mt (lstI ms)) (hh3 : ms.length ≤ 300) (hh4 : ∀ c ∈ ms, 0 ≤ c)
theorem law_spec {w : World} {sc : Addr} {ns : List Int} (hlen : ns.length ≤ 1000) (htab : ∀ D, DeckOk D → ∃ ks, TabOk (toldS D).1 ks)
    (hfind : ∀ (f : Int → Option Row) (ss : List Str), (∀ ss c, foldS f ss c ≠ []) → ∀ text part : List Int, findGo f ss (txt f ss part) text 0 = lawGo f ss (decide (part ≠ [])) (txt f ss part) text 0) :
    Fn w 16 (.ref 464) [.ref sc] [] (fun G => Has G sc (lstI ns)) (fun _ v _ _ => v = .bool true) := by
  refine Fn.of_bodyC (names := []) (m₀ := [("script", some (.ref sc)), ("data", none), ("told", none), ("code", none), ("text", none), ("is_turkic", none), ("folded", none), ("is_full", none), ("fold", none), ("at", none), ("part", none), ("mate", none), ("is_match", none)])
    (Nc := fun L => [(L + 1, cellp none)]) rfl rfl rfl rfl (by decide)
    (fun L => lk_bindL (names := ["script", "data", "told", "code", "text", "is_turkic", "folded", "is_full", "fold", "at", "part", "mate", "is_match"]) rfl rfl) (fun L => rfl) ?_
  intro G L B hsc
  refine W.letE ?_
  intro en0 Qf0
  -- deck, data
  refine W_cons (W_AssignTup (W_Tuple (W_argsCons (W_CallName (W_global (v := .ref 421) rfl (W_callWithF rfl (W_argsCons (W_local rfl (W_argsNil ?_)))))))))
  refine W_callE (N0 := []) ((law_deck_spec hlen).le (by decide)) (fun g S => hsc.keeps S) fun v N' g h' ⟨dq, lf, e, hdq, e2⟩ => ?_
  subst e e2
  refine W_argsCons (W_CallName (W_global (v := .ref 411) rfl (W_callWithF0 rfl ?_)))
  refine W_newE (cls_Data w) rfl rfl (fun x dx => data_init_spec.le (by decide)) (fun x dx g S => (S.ps _ (.head _)).1) fun x dx N' v g h' hxG hxP ⟨e, df, mp, pr, wo, ndf, nmp, e2⟩ => ⟨e, ?_⟩
  subst e2
  refine W_argsNil (W_newTuple (by rw [sizeLine_eq]; simp) fun q hq => ?_)
  refine W_assignTup (.inr (.inl (.head _))) (W_ordCons (W_assignName (W_storeCell (c := L + 1) rfl (.tail (.tail (.tail (.tail (.tail (.tail (.tail .head))))))) ?_)))
  refine W_ordCons (W_assignName (W_store (W_ordNil (ts := []) ?_)))
  have pm : ∀ a b c e f g h i : Addr × OP, [a, b, c, e, f, g, h, i].Perm ([a, b, e, f] ++ [c, g, h, i]) := fun a b c e f g h i => .cons _ (.cons _ ((List.perm_append_comm (l₁ := [c]) (l₂ := [e, f])).append_right _))
  have hD0 : DeckOk (deckOf ns) := deckOf_ok ns
  generalize deckOf ns = D0 at hD0 ⊢
  refine W.st (fun h S => St.freezeAll (S.perm (pm _ _ _ _ _ _ _ _))) (x := ?_)
  -- told
  refine W_cons (W_AssignName (W_CallName (W_global (v := .ref 435) rfl (W_callWithF rfl (W_argsCons (W_cell (c := L + 1) rfl (.inl (.tail _ (.tail _ (.tail _ (.head _))))) (W_argsNil ?_)))))))
  refine W_callP (N0 := DeckLed w dq lf D0) (R := [(mp, dk (strKind prg w) []), (L + 1, cellp (some (.ref dq)))]) ((law_told_spec hD0 hdq).le (by decide)) (List.perm_append_comm_assoc (l₁ := [_]) (l₂ := DeckLed w dq lf D0) (l₃ := [_])) (fun _ _ => trivial) fun v N' g h' S1 k S2 _ ⟨e2, R, ta, e, hR, hT⟩ => ?_
  subst e e2
  have S3 := S2.pinAll R fun p hp => ⟨(hR p hp).1, (S1.fresh (hR p hp).2.1).1, offN (hR p hp).2.2 (S1.fresh (hR p hp).2.1).2.1⟩
  refine ⟨_, _, _, S3, W_store (W.rebase fun G1 le1 B1 hin => ?_)⟩
  have hTold : ToldIs w G1 ta (toldS D0).1 := hT G1 fun p hp => hin p (List.mem_append_left _ hp)
  have hDF : DataFix w G1 x dx df mp (.ref pr) (.ref wo) := by
    refine ⟨hin (x, ins 411 dx) (List.mem_append_right _ (.tail _ (.tail _ (.tail _ (.tail _ (.tail _ (.head _))))))), ?_, hin (df, cfO w True 900) (List.mem_append_right _ (.tail _ (.head _))), ndf, nmp⟩
    obtain ⟨o, ho, z⟩ := hin (dx, att 4 (daA (.ref df) mp (.ref pr) (.ref wo))) (List.mem_append_right _ (.head _))
    exact ⟨o, ho, att_le (by decide) z⟩
  clear hin hT hR
  obtain ⟨ks, htk⟩ := htab D0 hD0
  have hD1 : DeckOk (toldS D0).2 := toldS_ok hD0
  generalize (toldS D0).1 = T at hTold htk
  generalize (toldS D0).2 = D1 at hD1 ⊢
  generalize hf : fT T = f at htk
  have hTat : ToldAt w G1 ta f := hf ▸ hTold.told
  obtain ⟨kvs, nta, hkv, hkvT⟩ := id hTold
  have hkeys := ToldKv.keys hkvT
  have hkl : kvs.length < 64 := by rw [← List.length_map (f := fun x : Int × Value => x.1), hkeys, List.length_map]; exact htk.len
  refine W.st (P' := []) (N' := [(mp, dk (strKind prg w) ([] : List (Str × Value)))] ++ (DeckLed w dq lf D1 ++ [(L + 1, cellp (some (.ref dq)))])) ?_ fun h S => (S.subP (P' := []) fun _ h => (nomatch h)).perm List.perm_middle
  -- the puts
  refine W_cut (fun P N m => (I28_1 w sc L dq lf x mp ta G1 ks D1 f N m)) ?_ ?_
  · refine W_ForG (W.post (W_CallName (W_builtin rfl rfl (W_callWithB (W_argsCons (W_local rfl (W_argsNil (W_sortedDI (.inr (.inr hkv)) nta hkl fun r2 ms hms hmsrt => ?_))))))))
    intro h S
    obtain ⟨us, hus, S'⟩ := S.opnI
    rw [hkeys] at hms
    obtain rfl := htk.srt ms hms hmsrt
    refine ⟨_, _, _, S'.freeze, us.length, _, fun i N m => (I28_2 w sc L dq lf x mp ta G1 D1 f ms i N m), .list (.inl (.head _)), ?_, ?_, ?_⟩
    · exact ⟨none, _, rfl, .inl ⟨rfl, rfl⟩, rfl⟩
    · rintro G' le i v N m hi hv ⟨cd, X, rfl, hX, rfl⟩
      obtain ⟨c, tc, hci, rfl⟩ := IntsAre.getV hus hv
      obtain ⟨r, hr, hput⟩ := htk.put i c hci
      have hval := hkvT.value c
      rw [hr] at hval
      obtain ⟨vv, hvv, hrow⟩ := hval
      rw [hf] at hr hput
      have htake : tabAt f (ms.take (i + 1)) = tabPut f (tabAt f (ms.take i)) c := by rw [List.take_add_one, hci]; exact tabAt_snoc
      have hil := hus.length
      have hkl := htk.kl
      refine W_assignName (W_store ?_)
      refine W_cons (W_Expr (W_CallMeth (W_local rfl (W_getMeth (cls_Data w) (.inr (.inr (hDF.hx.keeps le))) (.inr (.inr (hDF.hd.keeps le))) rfl rfl rfl (W_callWithF rfl (W_argsCons (W_str fun t1 => W_argsCons (W_local rfl (W_argsCons (W_local rfl (W_argsCons (W_Subscript (W_local rfl (W_local rfl (W_itemD (isI w _ _) (.inr (.inr (hkv.keeps le))) hvv (W_argsNil ?_))))))))))))))))
      rcases hX with ⟨rfl, rfl⟩ | ⟨rm, rdx, sa, va, n, hn, rfl⟩
      · refine W_callE ((data_put_new (H := G1) hput hrow).le (by decide)) (fun g S => ⟨fun b o e => S _ _ (le _ _ e), (hDF.keeps le).keeps S⟩) fun v N' g h' ⟨rm, rdx, sa, va, e2⟩ => ?_
        subst e2
        refine W_nil ⟨fun _ h => h, _, _, rfl, .inr ⟨rm, rdx, sa, va, 5, by omega, ?_⟩, rfl⟩
        rw [htake]
        unfold tabPut
        rw [hr]; rfl
      · refine W_callE ((data_put_old (H := G1) hput hrow (by omega)).le (by decide)) (fun g S => ⟨fun b o e => S _ _ (le _ _ e), (hDF.keeps le).keeps S⟩) fun v N' g h' ⟨sa', va', e2⟩ => ?_
        subst e2
        refine W_nil ⟨fun _ h => h, _, _, rfl, .inr ⟨rm, rdx, sa', va', n + 2, by omega, ?_⟩, rfl⟩
        rw [htake]
        unfold tabPut
        rw [hr]
    · rintro N m ⟨cd, X, rfl, hX, rfl⟩
      have hil := hus.length
      have hkl := htk.kl
      rcases hX with ⟨h0, _⟩ | ⟨rm, rdx, sa, va, n, hn, rfl⟩
      · exact absurd (List.length_eq_zero_iff.mp (hil.symm.trans h0)) htk.nonempty
      · rw [hil, List.take_length]
        exact ⟨_, rm, rdx, sa, va, n, by omega, rfl, rfl⟩
  · rintro P N m ⟨cd, rm, rdx, sa, va, n, hn, rfl, rfl⟩
    refine W.st (fun h S => St.freezeAll S) (x := W.rebase fun G2 le2 B2 hin => ?_)
    have hgood := htk.good
    have hrows := htk.rows
    have htl := htk.tl
    have hts := htk.ts
    have hsh := htk.short
    have hne := htk.ne
    have hidem := htk.idem
    have hix := htk.ix
    have hkp := htk.kp
    rw [hf] at hgood hrows htl hts hsh hne hidem hix hkp
    generalize (tabAt f ks).1 = starts at *
    generalize (tabAt f ks).2 = vals at *
    have hRm : DataRm w G2 x rm starts vals := by
      obtain ⟨o1, ho1, z1⟩ := hin (rdx, att n (rmA sa va)) (List.mem_append_left _ (.tail _ (.tail _ (.head _))))
      obtain ⟨o2, ho2, svs, hsi, hsl⟩ := hin (sa, lstI starts) (List.mem_append_left _ (.tail _ (.head _)))
      obtain ⟨o3, ho3, vvs, hvi, hvl⟩ := hin (va, lstV w G1 vals) (List.mem_append_left _ (.head _))
      exact ⟨dx, .ref df, mp, .ref pr, .ref wo, hDF.hx.keeps le2, hDF.hd.keeps le2, nmp, hin (mp, _) (List.mem_append_left _ (.tail _ (.tail _ (.tail _ (.tail _ (.head _)))))), rdx, sa, va, svs, vvs, hin (rm, ins 216 rdx) (List.mem_append_left _ (.tail _ (.tail _ (.tail _ (.head _))))),
        ⟨o1, ho1, att_le (by omega) z1⟩, ⟨o2, ho2, hsl⟩, ⟨o3, ho3, hvl⟩, hsi, hvi.mono fun _ _ y => y.keeps le2⟩
    have hDA : DataAt w G2 x f := hRm.at hgood
    have hTat2 : ToldAt w G2 ta f := hTat.keeps le2
    clear hin hkvT hkv hTold hTat hkeys hkl hDF
    obtain ⟨opl, hopl, pvs, hpi, hpl⟩ := pool_has B2
    have hpll := hpi.length
    have hpl14 : pvs.length = 14 := hpll
    refine W.st (P' := []) ?_ fun h S => S.subP (P' := []) fun _ h => (nomatch h)
    -- text
    refine W_cons (W_AssignComp (W_CallName (W_builtin rfl rfl (W_callWithT (W_argsCons (W_CallName (W_global (v := .ref 428) rfl (W_callWithF rfl (W_argsCons (W_cell (c := L + 1) rfl (.inl (.tail _ (.tail _ (.head _)))) (W_argsCons (W_int fun t1 => (W_argsNil (W_draw (X := []) (Y := [_]) hD1 (by decide) hdq fun t2 => ?_))))))))))))))
    have hD2 := drawS_ok (many := 7) hD1
    have hr7 := drawS_range (D := D1) (many := 7) (by decide)
    generalize hn7 : (drawS D1 7).1 = n7 at hr7 ⊢
    generalize (drawS D1 7).2 = D2 at hD2 ⊢
    refine W_argsNil (W_range1 fun rr hrr => ⟨_, _, fun i ys N => (I28_4 w L dq lf ys N), ?_, rfl, Src.range1 (.inl (.head _)) (by omega) (by omega) (by omega) (by omega), ⟨D2, [], hD2, .nil, (fun _ h => nomatch h), rfl⟩, ?_, ?_⟩)
    · rw [sizeLine_eq]; omega
    · rintro G' le C i v ys N hi ⟨tg, rfl⟩ ⟨D', ts, hD', hys, htp, rfl⟩ hyl
      refine W_tests0 ⟨fun _ => W.post ?_, fun e => (nomatch e)⟩
      have hopl' := le _ _ hopl
      refine W_Subscript (W_global (v := .ref 416) rfl (W_CallName (W_global (v := .ref 428) rfl (W_callWithF rfl (W_argsCons (W_cell (c := L + 1) rfl (.inl (.tail _ (.tail _ (.head _)))) (W_argsCons (W_CallName (W_builtin rfl rfl (W_callWithB (W_argsCons (W_global (v := .ref 416) rfl (W_argsNil (W_lenL (.inr (.inr ⟨_, hopl', hpl⟩)) (by omega) fun t1 => ?_))))))))))))))
      rw [hpl14]
      refine W_argsNil (W_draw (X := []) (Y := [_]) hD' (by decide) hdq fun t3 => ?_)
      obtain ⟨c, hcd, hcm, hc0, hc63⟩ := pool_draw (D := D')
      refine W_itemI (.inr (.inr ⟨_, hopl', _, hpi, hpl⟩)) hc0 hcd hc63 fun t4 => fun h S => ⟨_, _, _, S, fun _ h => h, rfl, _, ts ++ [c], drawS_ok hD', hys.append (.cons _ _ .nil), fun z hz => ?_, rfl⟩
      rcases List.mem_append.mp hz with hz | hz
      · exact htp z hz
      · rw [List.mem_singleton.mp hz]; exact hcm
    · rintro ys N tx ⟨D', ts, hD', hys, htp, rfl⟩ hyl
      have htl7 : ts.length ≤ 7 := by have := hys.length; omega
      refine W.clsI .head hys (W.st (fun h S => (S.subP (P' := []) fun _ h => (nomatch h)).freeze) (x := W.rebase fun G3 le3 B3 hin => ?_))
      have hTx : Has G3 tx (lstI ts) := hin (tx, lstI ts) (.head _)
      clear hin
      have hRm3 := hRm.keeps le3
      have hDA3 := hDA.keeps le3
      have hTat3 := hTat2.keeps le3
      clear hRm hDA hTat2
      refine W.st (P' := []) ?_ fun h S => S.subP (P' := []) fun _ h => (nomatch h)
      have hts0 : ∀ c ∈ ts, 0 ≤ c := fun c hc => pool_nonneg (htp c hc)
      -- is_turkic, folded
      refine W_cons (W_Swap2 (W_argsCons (W_Compare1 (W_CallName (W_global (v := .ref 428) rfl (W_callWithF rfl (W_argsCons (W_cell (c := L + 1) rfl (.inl (.tail _ (.tail _ (.head _)))) (W_argsCons (W_int fun t1 => W_argsNil (W_draw (X := []) (Y := [_]) hD' (by decide) hdq fun t2 => W_int fun t3 => W_eqI ?_)))))))))))
      have hD3 := drawS_ok (many := 3) hD'
      generalize (drawS D' 3).2 = D3 at hD3 ⊢
      generalize ((drawS D' 3).1 == 0) = turk
      refine W_argsCons (W_none (W_argsNil ⟨_, _, rfl, W_store (W_store ?_)⟩))
      -- the two folds
      have hq1000 : ts.length ≤ 1000 := by omega
      refine W_cut (fun P N m => (I28_5 w sc L dq lf x ta f cd tx ts D3 turk N m)) ?_ ?_
      · refine W_ForG (W_Tuple (W_argsCons (W_Tuple (W_argsCons (W_boolC (W_argsCons (W_global (v := .ref 256) rfl (W_argsNil (W_newTuple (by rw [sizeLine_eq]; simp) fun q1 hq1 => ?_)))))))))
        refine W_argsCons (W_Tuple (W_argsCons (W_boolC (W_argsCons (W_global (v := .ref 264) rfl (W_argsNil (W_newTuple (by rw [sizeLine_eq]; simp) fun q2 hq2 => ?_)))))))
        refine W_argsNil (W_newTuple (by rw [sizeLine_eq]; simp) fun q3 hq3 => ⟨_, _, fun i N m => (I28_6 w sc L dq lf x ta f cd tx ts D3 turk i N m), Src.tuple (.inl (.head _)), ⟨none, none, _, [], rfl, (fun h => nomatch h), rfl⟩, ?_, ?_⟩)
        · rintro G' le i v N m hi hv ⟨a, b, fo', T, rfl, _, rfl⟩
          obtain ⟨b, fa, q, rfl, hmem, hk, sp, hib⟩ : (I28_7 w x f turk q1 q2 q3 i v) := by
            rcases i with _ | _ | i
            · exact ⟨false, 256, q1, (Option.some.inj hv).symm, .tail _ (.tail _ (.head _)), rfl, fun hH hl hc => (fold_simple_spec hH hsh hl hc).le (by decide), fun h => by omega⟩
            · exact ⟨true, 264, q2, (Option.some.inj hv).symm, .tail _ (.head _), rfl, fun hH hl hc => (fold_full_spec hH hsh hl hc).le (by decide), fun _ => rfl⟩
            · exact absurd hi (by simp)
          have hid := txt_idem (f := f) (ss := stsOf b turk) (ts := ts) fun c hc => hidem b turk c (htp c hc)
          have hl3 := txt_length hsh (ss := stsOf b turk) ts
          have hp3 : ∀ c ∈ txt f (stsOf b turk) ts, 0 ≤ c := fun c hc => by
            obtain ⟨z, hz, hcz⟩ := List.mem_flatMap.mp hc
            exact hsh.pos _ z (hts0 z hz) c hcz
          refine W_assignTup (.inr (.inl hmem)) (W_ordCons (W_assignName (W_store (W_ordCons (W_assignName (W_store (W_ordNil (ts := []) ?_)))))))
          refine W_cons (W_AssignName (W_CallName (W_local rfl (W_callWithF hk (W_argsCons (W_local rfl (W_argsCons (W_local rfl (W_argsCons (W_local rfl (W_argsNil ?_)))))))))))
          refine W_callE (N0 := []) (sp hDA3 hq1000 hts0) (fun g S => ⟨fun b o e => S _ _ (le _ _ e), (hTx.keeps le).keeps S⟩) fun v N' g h' ⟨r, e, e2⟩ => ?_
          subst e e2
          refine W_store ?_
          refine W_cons (W_If (W_isTrueOr (W_orCons (W_isTrueCompare (W_local rfl (W_CallName (W_global (v := .ref 449) rfl (W_callWithF rfl (W_argsCons (W_local rfl (W_argsCons (W_local rfl (W_argsCons (W_local rfl (W_argsCons (W_local rfl (W_argsNil ?_)))))))))))))))))
          refine W_callE (N0 := []) ((law_text_spec hTat3 hsh hq1000).le (by decide)) (fun g S => ⟨fun b o e => S _ _ (le _ _ e), (hTx.keeps le).keeps S⟩) fun v N' g h' ⟨r2, e, e2⟩ => ?_
          subst e e2
          refine W_neLL (.inl (.tail _ (.head _))) (.inl (.head _)) (W_truthyBool ⟨fun _ => ?_, fun h => by simp at h⟩)
          refine W_orCons (W_isTrueCompare (W_CallName (W_local rfl (W_callWithF hk (W_argsCons (W_local rfl (W_argsCons (W_local rfl (W_argsCons (W_local rfl (W_argsNil ?_)))))))))))
          refine W_call (N0 := []) (sp hDA3 (by omega) hp3) (fun g S => ⟨fun b o e => S.keep _ _ (le _ _ e), (S.nw _ (.tail _ (.head _))).1⟩) fun v N' g h' S1 k S2 _ ⟨r3, e, e2⟩ => ?_
          subst e e2
          rw [hid] at S2
          refine ⟨_, _, _, S2, W_local rfl (W_neLL (.inl (.head _)) (.inl (.tail _ (.tail _ (.head _)))) (W_truthyBool ⟨fun _ => W_orNil ⟨fun e => (nomatch e), fun _ => W_nil (W_nil ⟨fun _ h => h, _, _, _, _ :: _ :: (r, lstI (txt f (stsOf b turk) ts)) :: T, rfl, fun h2 => ⟨r, rfl, ?_⟩, rfl⟩)⟩, fun h => by simp at h⟩))⟩
          rw [hib h2]
          exact .tail _ (.tail _ (.head _))
        · rintro N m ⟨a, b, fo', T, rfl, h2, rfl⟩
          obtain ⟨fo, rfl, hfo⟩ := h2 rfl
          exact ⟨fo, a, b, T, rfl, hfo, rfl⟩
      · rintro P N m ⟨fo, a, b, T, rfl, hfo, rfl⟩
        refine W.st (fun h S => St.freezeAll S) (x := W.rebase fun G4 le4 B4 hin => ?_)
        have hFo : Has G4 fo (lstI (txt f (stsOf true turk) ts)) := hin (fo, lstI (txt f (stsOf true turk) ts)) (List.mem_append_left _ (List.mem_reverse.mpr hfo))
        clear hin hfo
        have hTx4 := hTx.keeps le4
        have hTat4 := hTat3.keeps le4
        have hDA4 := hDA3.keeps le4
        have hRm4 := hRm3.keeps le4
        have hopl4 := le4 _ _ (le3 _ _ hopl)
        refine W.st (P' := []) ?_ fun h S => S.subP (P' := []) fun _ h => (nomatch h)
        clear hTx hTat3 hDA3 hRm3
        obtain ⟨otx, hotx, tvs, hti, htvl⟩ := id hTx4
        have htvn := hti.length
        -- at
        refine W_cons (W_AssignName (W_CallName (W_global (v := .ref 428) rfl (W_callWithF rfl (W_argsCons (W_cell (c := L + 1) rfl (.inl (.tail _ (.tail _ (.head _)))) (W_argsCons (W_BinOp (W_CallName (W_builtin rfl rfl (W_callWithB (W_argsCons (W_local rfl (W_argsNil (W_lenL (.inr (.inr ⟨_, hotx, htvl⟩)) (by omega) fun t1 => W_int fun t2 => W_add fun t3 => ?_)))))))))))))))
        refine W_argsNil (W_draw (X := []) (Y := [_]) hD3 (by omega) hdq fun t4 => W_store ?_)
        have hra := drawS_range (D := D3) (many := (tvs.length : Int) + 1) (by omega)
        have hD4 := drawS_ok (many := (tvs.length : Int) + 1) hD3
        generalize (drawS D3 ((tvs.length : Int) + 1)).1 = at0 at hra ⊢
        generalize (drawS D3 ((tvs.length : Int) + 1)).2 = D4 at hD4 ⊢
        -- part
        refine W_cut (fun P N m => (I28_8 w sc L dq lf x ta cd tx turk fo a b at0 N m)) ?_ ?_
        · refine W_AssignName (W_IfExp (W_isTrueCompare (W_CallName (W_global (v := .ref 428) rfl (W_callWithF rfl (W_argsCons (W_cell (c := L + 1) rfl (.inl (.tail _ (.tail _ (.head _)))) (W_argsCons (W_int fun t5 => W_argsNil (W_draw (X := []) (Y := [_]) hD4 (by decide) hdq fun t6 => W_int fun t7 => W_eqI (W_truthyBool ⟨fun _ => ?_, fun _ => ?_⟩)))))))))))
          all_goals
            have hD5 := drawS_ok (many := 2) hD4
            generalize (drawS D4 2).2 = D5 at hD5 ⊢
          · refine W_Subscript (W_local rfl (W_SliceE (W_partSome (W_local rfl (W_partSome (W_BinOp (W_local rfl (W_CallName (W_global (v := .ref 428) rfl (W_callWithF rfl (W_argsCons (W_cell (c := L + 1) rfl (.inl (.tail _ (.tail _ (.head _)))) (W_argsCons (W_int fun t5 => W_argsNil (W_draw (X := []) (Y := [_]) hD5 (by decide) hdq fun t6 => W_add fun t7 => ?_)))))))))))))))
            have hr3 := drawS_range (D := D5) (many := 3) (by decide)
            intro r2 hr2
            refine W_sliceRun (.inr (.inr ⟨_, hotx, htvl⟩)) hti (.inr (.inl (.head _))) (by omega) (by omega) (by omega) fun t8 => W_store ⟨t8, _, _, _, drawS_ok hD5, ?_, fun c hc => hts0 c (List.mem_of_mem_drop (List.mem_of_mem_take hc)), rfl, rfl⟩
            rw [List.length_take, List.length_drop]
            omega
          · refine W_List (W_argsCons (W_Subscript (W_global (v := .ref 416) rfl (W_CallName (W_global (v := .ref 428) rfl (W_callWithF rfl (W_argsCons (W_cell (c := L + 1) rfl (.inl (.tail _ (.tail _ (.head _)))) (W_argsCons (W_CallName (W_builtin rfl rfl (W_callWithB (W_argsCons (W_global (v := .ref 416) rfl (W_argsNil (W_lenL (.inr (.inr ⟨_, hopl4, hpl⟩)) (by omega) fun t1 => ?_))))))))))))))))
            rw [hpl14]
            refine W_argsNil (W_draw (X := []) (Y := [_]) hD5 (by decide) hdq fun t3 => ?_)
            obtain ⟨c, hcd, hcm, hc0, hc63⟩ := pool_draw (D := D5)
            refine W_itemI (.inr (.inr ⟨_, hopl4, _, hpi, hpl⟩)) hc0 hcd hc63 fun t4 => W_argsNil (W_newList (by rw [sizeLine_eq]; simp) fun t8 => W.clsI .head (.cons _ _ .nil) (W_store ⟨t8, [c], _, _, drawS_ok hD5, by simp, fun z hz => ?_, rfl, rfl⟩))
            rw [List.mem_singleton.mp hz]
            exact pool_nonneg hcm
        · rintro P N m ⟨pr, part, D5, t5, hD5, hpl8, hpp, rfl, rfl⟩
          -- the second part
          refine W_cut (fun P N m => (I28_9 w sc L dq lf x ta cd tx turk fo a b at0 t5 N m)) ?_ ?_
          · refine W_If (W_isTrueCompare (W_CallName (W_global (v := .ref 428) rfl (W_callWithF rfl (W_argsCons (W_cell (c := L + 1) rfl (.inl (.tail _ (.tail _ (.tail _ (.head _))))) (W_argsCons (W_int fun t6 => W_argsNil (W_draw (X := [_]) (Y := [_]) hD5 (by decide) hdq fun t7 => W_int fun t8 => W_eqI (W_truthyBool ⟨fun _ => ?_, fun _ => W_nil ⟨pr, [], part, _, drawS_ok hD5, hpl8, hpp, rfl, rfl⟩⟩))))))))))
            have hD6 := drawS_ok (many := 2) hD5
            generalize (drawS D5 2).2 = D6 at hD6 ⊢
            refine W_cons (W_AssignName (W_Subscript (W_CallName (W_global (v := .ref 449) rfl (W_callWithF rfl (W_argsCons (W_local rfl (W_argsCons (W_local rfl (W_argsCons (W_boolC (W_argsCons (W_local rfl (W_argsNil ?_))))))))))))))
            refine W_callES (N0 := []) ((law_text_spec hTat4 hsh (by omega)).le (by decide)) (fun g S => ⟨fun b o e => S.keep _ _ e, (S.nw _ (.head _)).1⟩) fun v N' g h' ⟨r, e, e2⟩ => ?_
            subst e e2
            have hl4 := txt_length hsh (ss := stsOf true turk) part
            refine W.opnI (.head _) (fun us => .head) fun us hus => ?_
            have hul := hus.length
            refine W_SliceE (W_partNone (W_partSome (W_int fun t9 => ?_)))
            intro r2 hr2
            refine W_takeAny (n := 2) (.inl (.head _)) (.inr (.inl (.head _))) (by omega) fun t10 => W.clsI .head (hus.take 2) (W_store (W_nil ⟨t10, [_, _], _, _, hD6, ?_, fun c hc => ?_, rfl, rfl⟩))
            · rw [List.length_take]; omega
            · obtain ⟨z, hz, hcz⟩ := List.mem_flatMap.mp (List.mem_of_mem_take hc)
              exact hsh.pos _ z (hpp z hz) c hcz
          · clear hpl8 hpp hD5
            rintro P N m ⟨pr, X, part, D5, hD5, hpl8, hpp, rfl, rfl⟩
            refine W.st (fun h S => St.freezeAll S) (x := W.rebase fun G5 le5 B5 hin => ?_)
            have hPr : Has G5 pr (lstI part) := hin (pr, lstI part) (List.mem_append_left _ (List.mem_reverse.mpr (.head _)))
            clear hin
            have hFo5 := hFo.keeps le5
            have hTx5 := hTx4.keeps le5
            have hTat5 := hTat4.keeps le5
            have hDA5 := hDA4.keeps le5
            have hRm5 := hRm4.keeps le5
            refine W.st (P' := []) ?_ fun h S => S.subP (P' := []) fun _ h => (nomatch h)
            clear hFo hTx4 hTat4 hDA4 hRm4
            -- find
            refine W_cons (W_If (W_isTrueCompare (W_ListCompG (W.post (W_CallName (W_global (v := .ref 359) rfl (W_callWithF rfl (W_argsCons (W_local rfl (W_argsCons (W_local rfl (W_argsCons (W_local rfl (W_argsCons (W_local rfl (W_argsNil ?_))))))))))))))))
            refine W_call (N0 := []) ((fold_find_spec hDA5 hsh (by omega) (by omega) hts0 hpp).le (by decide)) (fun g S => ⟨S.keep, hTx5.keeps S.keep, hPr.keeps S.keep⟩) fun v N' g h' S1 k S2 _ ⟨fr, fvs, fT, e, e2, hfp⟩ => ?_
            subst e e2
            rw [hfind f (stsOf true turk) hne ts part] at hfp
            have hll := (All2.length hfp)
            have hlg := lawGo_len f (stsOf true turk) (decide (part ≠ [])) (txt f (stsOf true turk) part) ts 0
            refine ⟨_, _, _, St.freezeAll S2, fun h S => ⟨_, _, _, S, fvs.length, _, fun i ys N => ys = fvs.take i ∧ N = DeckLed w dq lf D5 ++ [(L + 1, cellp (some (.ref dq)))], ?_, rfl, .list (.inl (List.mem_append_left _ (List.mem_reverse.mpr (List.mem_append_right _ (.head _))))), ⟨rfl, rfl⟩, ?_, ?_⟩⟩
            · rw [sizeLine_eq]; omega
            · rintro G' le C i v ys N hi hv ⟨rfl, rfl⟩ _
              obtain ⟨p, hp, t, rfl, hm⟩ := All2.getL hfp i v hv
              refine W_tests0 ⟨fun _ => W.post ?_, fun e => (nomatch e)⟩
              refine W_CallName (W_builtin rfl rfl (W_callWithT (W_argsCons (W_local rfl (W_argsNil (W_tupleTI (ns := [p.1, p.2]) (.inr (.inl (List.mem_append_left _ (List.mem_reverse.mpr (List.mem_append_left _ hm))))) ?_))))))
              refine fun h S => ⟨_, _, _, S, fun _ h => h, rfl, ?_, rfl⟩
              rw [List.take_add_one, hv]; rfl
            · rintro ys N rr ⟨rfl, rfl⟩ _
              rw [List.take_length]
              refine W_CallName (W_global (v := .ref 454) rfl (W_callWithF rfl (W_argsCons (W_local rfl (W_argsCons (W_local rfl (W_argsCons (W_local rfl (W_argsCons (W_local rfl (W_argsNil ?_)))))))))))
              refine W_callE (N0 := []) ((law_found_spec hTat5 hsh (by omega) (by omega)).le (by decide)) (fun g S => ⟨S, hTx5.keeps S, hPr.keeps S⟩) fun v N' g h' ⟨lr, lvs, lT, e, e2, hlp⟩ => ?_
              subst e e2
              have hva : All2 (PairRd G5 ((fT ++ [(fr, lst fvs)]).reverse ++ []) ((lT ++ [(lr, lst lvs)]) ++ ((rr, lst fvs) :: (DeckLed w dq lf D5 ++ [(L + 1, cellp (some (.ref dq)))])))) fvs (lawGo f (stsOf true turk) (decide (part ≠ [])) (txt f (stsOf true turk) part) ts 0) :=
                All2.mono (fun v p ⟨t, e, hm⟩ => ⟨t, e, .inr (.inl (List.mem_append_left _ (List.mem_reverse.mpr (List.mem_append_left _ hm))))⟩) hfp
              have hvb : All2 (PairRd G5 ((fT ++ [(fr, lst fvs)]).reverse ++ []) ((lT ++ [(lr, lst lvs)]) ++ ((rr, lst fvs) :: (DeckLed w dq lf D5 ++ [(L + 1, cellp (some (.ref dq)))])))) lvs (lawGo f (stsOf true turk) (decide (part ≠ [])) (txt f (stsOf true turk) part) ts 0) :=
                All2.mono (fun v p ⟨t, e, hm⟩ => ⟨t, e, .inl (List.mem_append_left _ (List.mem_append_left _ hm))⟩) hlp
              refine W_neLP (.inl (List.mem_append_right _ (.head _))) hva (.inl (List.mem_append_left _ (List.mem_append_right _ (.head _)))) hvb (W_truthyBool ⟨fun e => (nomatch e), fun _ => W_nil ?_⟩)
              refine W.st (P' := []) (N' := DeckLed w dq lf D5 ++ [(L + 1, cellp (some (.ref dq)))]) ?_ fun h S => (S.subP (P' := []) fun _ h => (nomatch h)).subN (.trans (.cons _ (.refl _)) (List.sublist_append_right ..))
              clear hva hvb hlp hfp hll hlg
              have hl4 := txt_length hsh (ss := stsOf true turk) ts
              have hp4 : ∀ c ∈ txt f (stsOf true turk) ts, 0 ≤ c := fun c hc => by
                obtain ⟨z, hz, hcz⟩ := List.mem_flatMap.mp hc
                exact hsh.pos _ z (hts0 z hz) c hcz
              -- the mates
              refine W_cut (fun P N m => (I28_10 w sc L dq lf x ta cd tx turk fo a b at0 t5 pr D5 N m)) ?_ ?_
              · refine W_ForG (W_Tuple (W_argsCons (W_local rfl (W_argsCons (W_local rfl (W_argsNil (W_newTuple (by rw [sizeLine_eq]; simp) fun q hq => ⟨_, _, fun i N m => (I28_10 w sc L dq lf x ta cd tx turk fo a b at0 t5 pr D5 N m), Src.tuple (.inl (.head _)), ⟨none, none, [], rfl, rfl⟩, ?_, fun N m y => y⟩)))))))
                rintro G' le i v N m hi hv ⟨u0, v0, X, rfl, rfl⟩
                obtain ⟨mt, ms, rfl, hmt, hml, hmp⟩ : (I28_12 G5 v) := by
                  rcases i with _ | _ | i
                  · exact ⟨fo, _, (Option.some.inj hv).symm, hFo5, by omega, hp4⟩
                  · exact ⟨pr, _, (Option.some.inj hv).symm, hPr, by omega, hpp⟩
                  · exact absurd hi (by simp)
                refine W_assignName (W_store ?_)
                refine W_cons (W_AssignName (W_Compare1 (W_CallName (W_global (v := .ref 449) rfl (W_callWithF rfl (W_argsCons (W_local rfl (W_argsCons (W_local rfl (W_argsCons (W_boolC (W_argsCons (W_local rfl (W_argsNil ?_))))))))))))))
                refine W_callE (N0 := []) ((law_text_spec hTat5 hsh (by omega)).le (by decide)) (fun g S => ⟨fun b o e => S _ _ (le _ _ e), (hmt.keeps le).keeps S⟩) fun v N' g h' ⟨r1, e, e2⟩ => ?_
                subst e e2
                refine W_CallName (W_global (v := .ref 449) rfl (W_callWithF rfl (W_argsCons (W_local rfl (W_argsCons (W_local rfl (W_argsCons (W_boolC (W_argsCons (W_local rfl (W_argsNil ?_)))))))))))
                refine W_callE (N0 := []) ((law_text_spec hTat5 hsh hq1000).le (by decide)) (fun g S => ⟨fun b o e => S _ _ (le _ _ e), (hTx5.keeps le).keeps S⟩) fun v N' g h' ⟨r2, e, e2⟩ => ?_
                subst e e2
                refine W_eqLL (.inl (.tail _ (.head _))) (.inl (.head _)) (W_store ?_)
                refine W_cons (W_If (W_isTrueCompare (W_CallName (W_global (v := .ref 280) rfl (W_callWithF rfl (W_argsCons (W_local rfl (W_argsCons (W_local rfl (W_argsCons (W_local rfl (W_argsCons (W_local rfl (W_argsNil ?_))))))))))))))
                refine W_call0E ((matches_default_spec hDA5 hsh hq1000 hts0 (by omega) hmp).le (by decide)) (fun g S => ⟨fun b o e => S _ _ (le _ _ e), (hTx5.keeps le).keeps S, (hmt.keeps le).keeps S⟩) fun v F g h' e => ?_
                subst e
                refine W_local rfl (W_isNot rfl (W_truthyBool ⟨fun h => ?_, fun _ => W_nil (W_nil ⟨fun _ h => h, _, _, _ :: _ :: X, rfl, rfl⟩)⟩))
                have e1 : decide (txt f (stsOf true turk) ts = txt f (stsOf true turk) ms) = decide (txt f (stsOf true turk) ms = txt f (stsOf true turk) ts) := decide_eq_decide.mpr eq_comm
                rw [e1] at h
                simp at h
              · rintro P N m ⟨u, v, X, rfl, rfl⟩
                refine W.st (P' := []) (N' := DeckLed w dq lf D5 ++ [(L + 1, cellp (some (.ref dq)))]) ?_ fun h S => (S.subP (P' := []) fun _ h => (nomatch h)).subN (List.sublist_append_right ..)
                refine W_cons (W_Return (W_CallName (W_global (v := .ref 459) rfl (W_callWithF rfl (W_argsCons (W_cell (c := L + 1) rfl (.inl (.tail _ (.tail _ (.head _)))) (W_argsCons (W_local rfl (W_argsCons (W_local rfl (W_argsCons (W_local rfl (W_argsNil ?_)))))))))))))
                refine W_callE (index_right_spec hTat5 hRm5 hgood hsh hne htl hts hrows htk.kl hkp hD5 hdq (hix turk)) (fun g S => S) fun v N' g h' e => fun h S => ⟨_, S.subP (P' := []) (fun _ h => (nomatch h)), Ends.nil, ?_⟩
                subst e
                rfl
end Nt
end
section
open PySem PySem.W PyProof.Rows PySem.Calls
set_option maxRecDepth 100000
set_option autoImplicit false
set_option linter.unusedVariables false
namespace Nt
theorem eat_char {f : Int → Option Row} {ss : List Str} {goal : List Int} : ∀ (rest known : List Int) (place : Nat), ∃ n, n ≤ rest.length ∧ eat f ss goal rest known place = (known ++ txt f ss (rest.take n), place + n) ∧
    (∀ j, j < n → (known ++ txt f ss (rest.take j)).length < goal.length) ∧ (n = rest.length ∨ goal.length ≤ (known ++ txt f ss (rest.take n)).length)
  | [], known, place => ⟨0, Nat.le_refl _, by simp [eat, txt], fun j h => absurd h (Nat.not_lt_zero _), .inl rfl⟩
  | c :: r, known, place => by
    unfold eat
    by_cases h : known.length < goal.length
    · rw [if_pos h]
      obtain ⟨n, h1, h2, h3, h4⟩ := eat_char (f := f) (ss := ss) (goal := goal) r (known ++ foldS f ss c) (place + 1)
      have e : ∀ j, known ++ txt f ss ((c :: r).take (j + 1)) = known ++ foldS f ss c ++ txt f ss (r.take j) := fun j => by
        rw [List.take_succ_cons]
        show known ++ (foldS f ss c ++ txt f ss (r.take j)) = _
        rw [List.append_assoc]
      refine ⟨n + 1, by rw [List.length_cons]; omega, by rw [h2, e, show place + (n + 1) = place + 1 + n by omega], fun j hj => ?_, ?_⟩
      · cases j with
        | zero => simpa [txt] using h
        | succ j => rw [e]; exact h3 j (by omega)
      · rw [e, List.length_cons]
        exact h4.imp (fun q => by omega) id
    · rw [if_neg h]
      exact ⟨0, Nat.zero_le _, by simp [txt], fun j hj => absurd hj (Nat.not_lt_zero _), .inr (by simp [txt]; omega)⟩
theorem txt_grow {f : Int → Option Row} {ss : List Str} (hne : ∀ c, foldS f ss c ≠ []) (rest : List Int) {i j : Nat} (h : i < j) (hj : j ≤ rest.length) : (txt f ss (rest.take i)).length < (txt f ss (rest.take j)).length := by
  induction rest generalizing i j with
  | nil => simp at hj; omega
  | cons c r ih =>
    cases j with
    | zero => omega
    | succ j =>
      have hc := List.length_pos_iff.mpr (hne c)
      have e : ∀ k, txt f ss ((c :: r).take (k + 1)) = foldS f ss c ++ txt f ss (r.take k) := fun k => rfl
      rw [e, List.length_append]
      cases i with
      | zero => show 0 < _; omega
      | succ i =>
        rw [e, List.length_append]
        have := ih (i := i) (j := j) (by omega) (by rw [List.length_cons] at hj; omega)
        omega
theorem ends_end {f : Int → Option Row} {ss : List Str} (hne : ∀ c, foldS f ss c ≠ []) {goal : List Int} (hg : goal ≠ []) (text : List Int) (a : Nat) :
    match endOf f ss goal text a with
    | none => endsOf f ss goal text a (text.length - a) = []
    | some e => ∃ r, endsOf f ss goal text a (text.length - a) = (e : Int) :: r := by
  obtain ⟨n, h1, h2, h3, h4⟩ := eat_char (f := f) (ss := ss) (goal := goal) (text.drop a) [] a
  rw [List.length_drop] at h1 h4
  simp only [List.nil_append] at h2 h3 h4
  have hl : ∀ m, m ≤ text.length - a → m ≤ (text.drop a).length := fun m h => by rw [List.length_drop]; exact h
  have key : ∀ m, m ≤ text.length - a → txt f ss ((text.drop a).take m) = goal → m = n := fun m hm he => by
    rcases Nat.lt_trichotomy m n with q | q | q
    · have := h3 m q; rw [he] at this; omega
    · exact q
    · rcases h4 with h4 | h4
      · omega
      · have := txt_grow hne (text.drop a) q (hl m hm)
        rw [he] at this; omega
  unfold endOf
  rw [h2]
  dsimp only
  have mem : ∀ e ∈ endsOf f ss goal text a (text.length - a), txt f ss ((text.drop a).take n) = goal ∧ e = ((a + n : Nat) : Int) := fun e he => by
    unfold endsOf at he
    rw [List.mem_filterMap] at he
    obtain ⟨j, hj, hq⟩ := he
    rw [List.mem_range] at hj
    by_cases q : txt f ss ((text.drop a).take (j + 1)) = goal
    · rw [if_pos q] at hq
      have := key (j + 1) (by omega) q
      subst this
      refine ⟨q, ?_⟩
      cases hq; omega
    · rw [if_neg q] at hq; cases hq
  by_cases q : txt f ss ((text.drop a).take n) = goal
  · rw [if_pos q]
    dsimp only
    have hn : n ≠ 0 := fun e => by subst e; exact hg (by rw [← q]; rfl)
    have : ((a + n : Nat) : Int) ∈ endsOf f ss goal text a (text.length - a) := by
      unfold endsOf
      rw [List.mem_filterMap]
      exact ⟨n - 1, List.mem_range.mpr (by omega), by rw [show n - 1 + 1 = n by omega, if_pos q]; congr 1; omega⟩
    cases hE : endsOf f ss goal text a (text.length - a) with
    | nil => rw [hE] at this; cases this
    | cons e r => exact ⟨r, by rw [(mem e (by rw [hE]; exact .head _)).2]⟩
  · rw [if_neg q]
    dsimp only
    exact List.eq_nil_iff_forall_not_mem.mpr fun e he => q (mem e he).1
theorem lawGo_false {f : Int → Option Row} {ss : List Str} {goal text : List Int} : ∀ (n a : Nat), text.length - a ≤ n → lawGo f ss false goal text a = []
  | n, a, h => by
    rw [lawGo]
    by_cases q : a < text.length
    · rw [dif_pos q]
      cases n with
      | zero => omega
      | succ n =>
        have i := lawGo_false (f := f) (ss := ss) (goal := goal) (text := text) n (a + 1) (by omega)
        split
        · rw [dif_neg (by simp)]; exact i
        · exact i
    · rw [dif_neg q]
theorem find_law {f : Int → Option Row} {ss : List Str} (hne : ∀ c, foldS f ss c ≠ []) {goal text : List Int} (hg : goal ≠ []) : ∀ (n a : Nat), text.length - a ≤ n → findGo f ss goal text a = lawGo f ss true goal text a
  | n, a, h => by
    rw [lawGo, findGo]
    by_cases q : a < text.length
    · rw [dif_pos q, dif_pos ⟨q, hg⟩]
      cases n with
      | zero => omega
      | succ n =>
        have i := find_law hne (text := text) hg n (a + 1) (by omega)
        have E := ends_end hne hg text a
        cases hE : endOf f ss goal text a with
        | none =>
          rw [hE] at E
          dsimp only at E
          rw [E]
          exact i
        | some e =>
          rw [hE] at E
          obtain ⟨r, E⟩ := E
          rw [E]
          dsimp only
          have hr := endOf_range hE hg q
          have hi := find_law hne (text := text) hg n e (by omega)
          rw [dif_pos hr.1, dif_pos ⟨by omega, rfl⟩, Int.toNat_natCast, hi]
    · rw [dif_neg q, dif_neg fun z => q z.1]
theorem find_right (f : Int → Option Row) (ss : List Str) (hne : ∀ ss c, foldS f ss c ≠ []) (text part : List Int) : findGo f ss (txt f ss part) text 0 = lawGo f ss (decide (part ≠ [])) (txt f ss part) text 0 := by
  by_cases h : part = []
  · subst h
    rw [show decide (([] : List Int) ≠ []) = false from by decide, lawGo_false _ _ (Nat.le_refl _), findGo, dif_neg fun z => z.2 rfl]
  · rw [decide_eq_true h]
    refine find_law (hne ss) ?_ _ _ (Nat.le_refl _)
    cases part with
    | nil => exact absurd rfl h
    | cons c r => exact fun e => hne ss c (List.append_eq_nil_iff.mp e).1
end Nt
end
section
open PySem PySem.W PyProof.Rows PySem.Calls
set_option maxRecDepth 100000
set_option autoImplicit false
set_option linter.unusedVariables false
namespace Nt
/-- a set of codes: is c in one of the runs -/
noncomputable def inR (bn : List (Int × Int)) (c : Int) : Prop := ∃ p ∈ bn, p.1 ≤ c ∧ c < p.2
/-- runs rising, none touching the next -/
structure Norm (bn : List (Int × Int)) : Prop where
  pos : ∀ p ∈ bn, p.1 < p.2
  apart : bn.Pairwise fun p q => p.2 < q.1
theorem Norm.tail {p : Int × Int} {r : List (Int × Int)} (h : Norm (p :: r)) : Norm r := ⟨fun q m => h.pos q (.tail _ m), (List.pairwise_cons.mp h.apart).2⟩
theorem Norm.head {p : Int × Int} {r : List (Int × Int)} (h : Norm (p :: r)) : p.1 < p.2 ∧ ∀ q ∈ r, p.2 < q.1 := ⟨h.pos p (.head _), (List.pairwise_cons.mp h.apart).1⟩
theorem flat_app (a b : List (Int × Int)) : flat (a ++ b) = flat a ++ flat b := by unfold flat; rw [List.flatMap_append]
theorem stepB_norm {bn : List (Int × Int)} {p : Int × Int} (h : Norm bn) (hp : p.1 ≤ p.2) (hs : ∀ r ∈ bn, r.1 ≤ p.1) :
    ∃ bn', stepB (flat bn) p = flat bn' ∧ Norm bn' ∧ (∀ r ∈ bn', r.1 ≤ p.1) ∧ ∀ c, inR bn' c ↔ inR bn c ∨ (p.1 ≤ c ∧ c ≤ p.2) := by
  rcases List.eq_nil_or_concat bn with rfl | ⟨i, ⟨a, b⟩, rfl⟩
  · refine ⟨[(p.1, p.2 + 1)], rfl, ⟨fun q m => ?_, List.pairwise_singleton _ _⟩, fun q m => ?_, fun c => ?_⟩
    · rw [List.mem_singleton.mp m]; dsimp only; omega
    · rw [List.mem_singleton.mp m]; exact Int.le_refl _
    · unfold inR
      simp only [List.mem_singleton, exists_eq_left, List.not_mem_nil, false_and, exists_false, false_or]
      omega
  · simp only [List.concat_eq_append] at h hs ⊢
    have hab : a < b := h.pos (a, b) (List.mem_append_right _ (.head _))
    have hap : a ≤ p.1 := hs (a, b) (List.mem_append_right _ (.head _))
    obtain ⟨h1, h2, h3⟩ := List.pairwise_append.mp h.apart
    have e : flat (i ++ [(a, b)]) = flat i ++ [a] ++ [b] := by rw [flat_app]; simp [flat]
    unfold stepB
    rw [e, List.getLastD_concat, List.dropLast_concat]
    by_cases q : p.1 ≤ b
    · rw [if_pos ⟨by simp, q⟩]
      refine ⟨i ++ [(a, max b (p.2 + 1))], by rw [flat_app]; simp [flat], ⟨fun r m => ?_, List.pairwise_append.mpr ⟨h1, List.pairwise_singleton _ _, fun r m s n => ?_⟩⟩, fun r m => ?_, fun c => ?_⟩
      · rcases List.mem_append.mp m with m | m
        · exact h.pos r (List.mem_append_left _ m)
        · rw [List.mem_singleton.mp m]; dsimp only; omega
      · rw [List.mem_singleton.mp n]; exact h3 r m (a, b) (.head _)
      · rcases List.mem_append.mp m with m | m
        · exact hs r (List.mem_append_left _ m)
        · rw [List.mem_singleton.mp m]; exact hap
      · unfold inR
        simp only [List.mem_append, List.mem_singleton, or_and_right, exists_or, exists_eq_left]
        constructor
        · rintro (z | z)
          · exact .inl (.inl z)
          · by_cases y : c < b
            · exact .inl (.inr ⟨z.1, y⟩)
            · exact .inr (by omega)
        · rintro ((z | z) | z)
          · exact .inl z
          · exact .inr (by omega)
          · exact .inr (by omega)
    · rw [if_neg fun z => q z.2]
      refine ⟨i ++ [(a, b)] ++ [(p.1, p.2 + 1)], by rw [flat_app, e]; simp [flat], ⟨fun r m => ?_, List.pairwise_append.mpr ⟨h.apart, List.pairwise_singleton _ _, fun r m s n => ?_⟩⟩, fun r m => ?_, fun c => ?_⟩
      · rcases List.mem_append.mp m with m | m
        · exact h.pos r m
        · rw [List.mem_singleton.mp m]; dsimp only; omega
      · rw [List.mem_singleton.mp n]
        dsimp only
        rcases List.mem_append.mp m with m | m
        · have := h3 r m (a, b) (.head _); dsimp only at this; omega
        · rw [List.mem_singleton.mp m]; dsimp only; omega
      · rcases List.mem_append.mp m with m | m
        · exact hs r m
        · rw [List.mem_singleton.mp m]; exact Int.le_refl _
      · unfold inR
        constructor
        · rintro ⟨r, m, z⟩
          rcases List.mem_append.mp m with m | m
          · exact .inl ⟨r, m, z⟩
          · rw [List.mem_singleton.mp m] at z; exact .inr (by dsimp only at z; omega)
        · rintro (⟨r, m, z⟩ | z)
          · exact ⟨r, List.mem_append_left _ m, z⟩
          · exact ⟨_, List.mem_append_right _ (.head _), by dsimp only; omega⟩
theorem foldB_norm : ∀ (qs bn : List (Int × Int)), Norm bn → (∀ p ∈ qs, p.1 ≤ p.2) → qs.Pairwise (fun x y => x.1 ≤ y.1) → (∀ r ∈ bn, ∀ q ∈ qs, r.1 ≤ q.1) → ∃ bn', qs.foldl stepB (flat bn) = flat bn' ∧ Norm bn' ∧ ∀ c, inR bn' c ↔ inR bn c ∨ ∃ p ∈ qs, p.1 ≤ c ∧ c ≤ p.2
  | [], bn, h, _, _, _ => ⟨bn, rfl, h, fun c => by simp⟩
  | p :: t, bn, h, hg, hs, hr => by
    obtain ⟨b1, e1, n1, s1, m1⟩ := stepB_norm h (hg p (.head _)) fun r m => hr r m p (.head _)
    obtain ⟨hp, ht⟩ := List.pairwise_cons.mp hs
    obtain ⟨b2, e2, n2, m2⟩ := foldB_norm t b1 n1 (fun q m => hg q (.tail _ m)) ht fun r m q n => by
      have := s1 r m; have := hp q n; omega
    refine ⟨b2, by rw [List.foldl_cons, e1, e2], n2, fun c => ?_⟩
    rw [m2, m1]
    simp only [List.mem_cons, exists_eq_or_imp, or_assoc]
theorem Norm.uniq : ∀ {a b : List (Int × Int)}, Norm a → Norm b → (∀ c, inR a c ↔ inR b c) → a = b
  | [], [], _, _, _ => rfl
  | [], q :: s, _, hb, e => by
    obtain ⟨_, m, _⟩ := (e q.1).mpr ⟨q, .head _, Int.le_refl _, hb.head.1⟩
    cases m
  | p :: r, [], ha, _, e => by
    obtain ⟨_, m, _⟩ := (e p.1).mp ⟨p, .head _, Int.le_refl _, ha.head.1⟩
    cases m
  | p :: r, q :: s, ha, hb, e => by
    have lo : ∀ {p : Int × Int} {r : List (Int × Int)} {c : Int}, Norm (p :: r) → inR (p :: r) c → p.1 ≤ c := by
      rintro p r c h ⟨z, m, h1, h2⟩
      rcases List.mem_cons.mp m with rfl | m
      · exact h1
      · have := h.head.2 z m; have := h.head.1; omega
    have up : ∀ {p : Int × Int} {r : List (Int × Int)}, Norm (p :: r) → ¬ inR (p :: r) p.2 := by
      rintro p r h ⟨z, m, h1, h2⟩
      rcases List.mem_cons.mp m with rfl | m
      · omega
      · have := h.head.2 z m; omega
    have hp := ha.head
    have hq := hb.head
    have e1 : p.1 = q.1 := by
      have := lo ha ((e q.1).mpr ⟨q, .head _, Int.le_refl _, hq.1⟩)
      have := lo hb ((e p.1).mp ⟨p, .head _, Int.le_refl _, hp.1⟩)
      omega
    have e2 : p.2 = q.2 := by
      rcases Int.lt_trichotomy p.2 q.2 with z | z | z
      · exact absurd ((e p.2).mpr ⟨q, .head _, by omega, z⟩) (up ha)
      · exact z
      · exact absurd ((e q.2).mp ⟨p, .head _, by omega, z⟩) (up hb)
    obtain rfl : p = q := Prod.ext e1 e2
    have : r = s := Norm.uniq ha.tail hb.tail fun c => by
      have st : ∀ {r s : List (Int × Int)}, Norm (p :: r) → (inR (p :: r) c → inR (p :: s) c) → inR r c → inR s c := by
        rintro r s h g ⟨z, m, h1, h2⟩
        have := h.head.2 z m
        obtain ⟨y, n, h3, h4⟩ := g ⟨z, .tail _ m, h1, h2⟩
        rcases List.mem_cons.mp n with rfl | n
        · omega
        · exact ⟨y, n, h3, h4⟩
      exact ⟨st ha (e c).mp, st hb (e c).mpr⟩
    rw [this]
theorem bis_cons (a : Int) (r : List Int) (x : Int) : bis (a :: r) x = if a ≤ x then bis r x + 1 else 0 := by
  unfold bis
  rw [List.takeWhile_cons]
  by_cases h : a ≤ x
  · rw [if_pos (decide_eq_true h), if_pos h]; rfl
  · rw [if_neg (by simpa using h), if_neg h]; rfl
theorem fmod_two (z : Int) : (z + 2).fmod 2 = z.fmod 2 := by
  rw [Int.fmod_eq_emod_of_nonneg (z + 2) (by decide), Int.fmod_eq_emod_of_nonneg z (by decide)]
  omega
theorem hasS_in : ∀ {bn : List (Int × Int)}, Norm bn → ∀ c, hasS (flat bn) c = true ↔ inR bn c
  | [], _, c => by
    refine ⟨fun h => ?_, fun ⟨_, m, _⟩ => nomatch m⟩
    exact absurd h (by show ¬ (((((0 : Nat) : Int) - 1).fmod 2 == 0) = true); decide)
  | p :: r, h, c => by
    have i := hasS_in h.tail c
    have hh := h.head
    unfold hasS at *
    have e : flat (p :: r) = p.1 :: p.2 :: flat r := rfl
    rw [e, bis_cons, bis_cons]
    by_cases q1 : p.1 ≤ c
    · rw [if_pos q1]
      by_cases q2 : p.2 ≤ c
      · rw [if_pos q2]
        rw [show ((bis (flat r) c + 1 + 1 : Nat) : Int) - 1 = ((bis (flat r) c : Int) - 1) + 2 by omega]
        rw [fmod_two, i]
        refine ⟨fun ⟨z, m, y⟩ => ⟨z, .tail _ m, y⟩, fun ⟨z, m, y⟩ => ?_⟩
        rcases List.mem_cons.mp m with rfl | m
        · omega
        · exact ⟨z, m, y⟩
      · rw [if_neg q2]
        exact ⟨fun _ => ⟨p, .head _, q1, by omega⟩, fun _ => by decide⟩
    · rw [if_neg q1]
      refine ⟨fun z => absurd z (by decide), fun ⟨z, m, y⟩ => ?_⟩
      rcases List.mem_cons.mp m with rfl | m
      · exact absurd y.1 q1
      · have := hh.2 z m; omega
theorem upI_mem {a : Int} {n : Nat} {c : Int} : c ∈ upI a n ↔ a ≤ c ∧ c < a + n := by
  unfold upI
  rw [List.mem_map]
  constructor
  · rintro ⟨i, h, rfl⟩
    rw [List.mem_range] at h
    omega
  · rintro ⟨h1, h2⟩
    exact ⟨(c - a).toNat, List.mem_range.mpr (by omega), by omega⟩
theorem upI_sorted (a : Int) (n : Nat) : (upI a n).Pairwise (· < ·) := by
  unfold upI
  rw [List.pairwise_map]
  exact List.pairwise_lt_range.imp fun h => by omega
theorem codes_in {bn : List (Int × Int)} {c : Int} : c ∈ codesOf bn ↔ inR bn c := by
  unfold codesOf inR
  rw [List.mem_flatMap]
  constructor
  · rintro ⟨p, m, h⟩
    rw [upI_mem] at h
    exact ⟨p, m, by omega⟩
  · rintro ⟨p, m, h⟩
    exact ⟨p, m, by rw [upI_mem]; omega⟩
theorem codes_sorted : ∀ {bn : List (Int × Int)}, Norm bn → (codesOf bn).Pairwise (· < ·)
  | [], _ => .nil
  | p :: r, h => by
    have e : codesOf (p :: r) = upI p.1 (p.2 - p.1).toNat ++ codesOf r := rfl
    rw [e]
    refine List.pairwise_append.mpr ⟨upI_sorted _ _, codes_sorted h.tail, fun x hx y hy => ?_⟩
    rw [upI_mem] at hx
    obtain ⟨q, m, z⟩ := codes_in.mp hy
    have := h.head.2 q m
    have := h.head.1
    omega
theorem codes_ge : ∀ {bn : List (Int × Int)}, (∀ p ∈ bn, p.1 < p.2) → bn.length ≤ (codesOf bn).length ∧ ∀ p ∈ bn, (p.2 - p.1).toNat ≤ (codesOf bn).length
  | [], _ => ⟨Nat.le_refl _, fun _ m => nomatch m⟩
  | p :: r, h => by
    have i := codes_ge fun q m => h q (.tail _ m)
    have e : codesOf (p :: r) = upI p.1 (p.2 - p.1).toNat ++ codesOf r := rfl
    have l : (upI p.1 (p.2 - p.1).toNat).length = (p.2 - p.1).toNat := by unfold upI; simp
    have := h p (.head _)
    rw [e, List.length_append, l, List.length_cons]
    refine ⟨by omega, fun q m => ?_⟩
    rcases List.mem_cons.mp m with rfl | m
    · omega
    · have := i.2 q m; omega
theorem flat_mem {bn : List (Int × Int)} {x : Int} (h : x ∈ flat bn) : ∃ p ∈ bn, x = p.1 ∨ x = p.2 := by
  unfold flat at h
  obtain ⟨p, m, z⟩ := List.mem_flatMap.mp h
  refine ⟨p, m, ?_⟩
  simpa using z
theorem flat_sorted : ∀ {bn : List (Int × Int)}, Norm bn → (flat bn).Pairwise (· ≤ ·)
  | [], _ => .nil
  | p :: r, h => by
    have e : flat (p :: r) = p.1 :: p.2 :: flat r := rfl
    have hh := h.head
    have k : ∀ x ∈ flat r, p.2 < x := fun x hx => by
      obtain ⟨q, m, z⟩ := flat_mem hx
      have := hh.2 q m
      have := h.tail.pos q m
      rcases z with rfl | rfl <;> omega
    rw [e]
    refine List.pairwise_cons.mpr ⟨fun x hx => ?_, List.pairwise_cons.mpr ⟨fun x hx => ?_, flat_sorted h.tail⟩⟩
    · rcases List.mem_cons.mp hx with rfl | hx
      · omega
      · have := k x hx; omega
    · have := k x hx; omega
theorem sorted_uniq : ∀ {a b : List Int}, a.Pairwise (· < ·) → b.Pairwise (· < ·) → (∀ c, c ∈ a ↔ c ∈ b) → a = b
  | [], [], _, _, _ => rfl
  | [], q :: s, _, _, e => nomatch (e q).mpr (.head _)
  | p :: r, [], _, _, e => nomatch (e p).mp (.head _)
  | p :: r, q :: s, ha, hb, e => by
    obtain ⟨h1, h2⟩ := List.pairwise_cons.mp ha
    obtain ⟨h3, h4⟩ := List.pairwise_cons.mp hb
    have e1 : p = q := by
      rcases List.mem_cons.mp ((e p).mp (.head _)) with z | z
      · exact z
      · rcases List.mem_cons.mp ((e q).mpr (.head _)) with y | y
        · exact y.symm
        · have := h3 p z; have := h1 q y; omega
    subst e1
    rw [sorted_uniq h2 h4 fun c => ⟨fun m => ?_, fun m => ?_⟩]
    · rcases List.mem_cons.mp ((e c).mp (.tail _ m)) with z | z
      · have := h1 c m; omega
      · exact z
    · rcases List.mem_cons.mp ((e c).mpr (.tail _ m)) with z | z
      · have := h3 c m; omega
      · exact z
theorem perm_uniq {a b : List Int} (h : a.Perm b) (ha : a.Pairwise (· ≤ ·)) (hb : b.Pairwise (· ≤ ·)) : a = b :=
  h.eq_of_pairwise (fun x y _ _ h1 h2 => Int.le_antisymm h1 h2) ha hb
end Nt
end
section
open PySem PySem.W PyProof.Rows PySem.Calls
set_option maxRecDepth 100000
set_option autoImplicit false
set_option linter.unusedVariables false
namespace Nt
noncomputable def groups (f : Int → Option Row) (turk : Bool) (D1 D2 : FD) : List (List Int) := (D1.map (·.1)).map (fun k => alike0 f turk D1 (k.headD 0)) ++ (D2.map (·.1)).map fun k => (D2.lookup k).getD []
/-- what is to be seen of an index, by evaluation -/
structure IxSeen (f : Int → Option Row) (turk : Bool) (D1 D2 : FD) (G : List (List Int)) : Prop where
  keys1 : (D1.all fun e => decide (e.1 ≠ []) && decide (0 ≤ e.1.headD 0)) = true
  keys2 : (D2.all fun e => decide (e.1 ≠ [])) = true
  one : (pool.all fun c => (alike0 f turk D1 c).isPerm (pool.filter fun o => likeS f turk o c)) = true
  many : (pool.all fun c => !decide (1 < ((foldS f (stsOf true turk) c).length : Int)) || ((D2.lookup (foldS f (stsOf true turk) c)).getD []).isPerm (pool.filter fun o => likeF f turk o c)) = true
  drawn : (G.all fun g => g.all fun o => pool.contains o) = true
  mates : (pool.all fun x => pool.all fun o => mateP f turk o x == (o == x || G.any fun g => g.contains x && g.contains o)) = true
  stays : (pool.all fun x => G.all fun g => !(g.any fun o => mateP f turk o x) || g.all fun y => mateP f turk y x) = true
  small : decide ((G.map List.length).sum ≤ 40) = true
/-- one closing, of sets -/
noncomputable def clo (G : List (List Int)) (S : Int → Prop) (x : Int) : Prop := S x ∨ ∃ g ∈ G, (∃ o ∈ g, S o) ∧ x ∈ g
theorem perm_law {a b ns ps : List Int} {t : Int → Bool} (h : a.Perm (b.filter t)) (h1 : ns.Perm a) (h2 : ns.Pairwise (· ≤ ·)) (h3 : ps.Perm b) (h4 : ps.Pairwise (· ≤ ·)) : ns = ps.filter t :=
  perm_uniq (h1.trans (h.trans (h3.filter t).symm)) h2 (h4.filter t)
theorem touch_mem {b g : List Int} {p : Int × Int} : p ∈ touch b g ↔ (∃ o ∈ g, hasS b o = true) ∧ ∃ y ∈ g, p = (y, y) := by
  unfold touch
  by_cases h : g.any (hasS b) = true
  · rw [if_pos h]
    rw [List.any_eq_true] at h
    rw [List.mem_map]
    exact ⟨fun ⟨y, m, e⟩ => ⟨h, y, m, e.symm⟩, fun ⟨_, y, m, e⟩ => ⟨y, m, e.symm⟩⟩
  · rw [if_neg h]
    rw [List.any_eq_true] at h
    exact ⟨fun m => (nomatch m), fun ⟨z, _⟩ => absurd z h⟩
theorem closed_mem {f : Int → Option Row} {turk : Bool} {D1 D2 : FD} {bn : List (Int × Int)} {p : Int × Int} :
    p ∈ closedPairs f turk D1 D2 bn ↔ p ∈ runs bn ∨ ∃ g ∈ groups f turk D1 D2, (∃ o ∈ g, hasS (flat bn) o = true) ∧ ∃ y ∈ g, p = (y, y) := by
  unfold closedPairs groups closedA closedB
  simp only [List.mem_append, List.mem_flatMap, List.mem_map, touch_mem, or_and_right, exists_or, or_assoc]
  constructor
  · rintro (h | ⟨k, m, h⟩ | ⟨k, m, h⟩)
    · exact .inl h
    · exact .inr (.inl ⟨_, ⟨k, m, rfl⟩, h⟩)
    · exact .inr (.inr ⟨_, ⟨k, m, rfl⟩, h⟩)
  · rintro (h | ⟨g, ⟨k, m, rfl⟩, h⟩ | ⟨g, ⟨k, m, rfl⟩, h⟩)
    · exact .inl h
    · exact .inr (.inl ⟨k, m, h⟩)
    · exact .inr (.inr ⟨k, m, h⟩)
theorem touch_len {α : Type} (b : List Int) (g : α → List Int) : ∀ ks : List α, (ks.flatMap fun k => touch b (g k)).length ≤ ((ks.map g).map List.length).sum
  | [] => Nat.le_refl _
  | k :: r => by
    have i := touch_len b g r
    have : (touch b (g k)).length ≤ (g k).length := by
      unfold touch
      split
      · simp
      · simp
    rw [List.flatMap_cons, List.length_append, List.map_cons, List.map_cons, List.sum_cons]
    omega
theorem closed_len {f : Int → Option Row} {turk : Bool} {D1 D2 : FD} {bn : List (Int × Int)} : (closedPairs f turk D1 D2 bn).length ≤ bn.length + ((groups f turk D1 D2).map List.length).sum := by
  unfold closedPairs groups
  have h1 := touch_len (flat bn) (fun k : List Int => alike0 f turk D1 (k.headD 0)) (D1.map (·.1))
  have h2 := touch_len (flat bn) (fun k : List Int => (D2.lookup k).getD []) (D2.map (·.1))
  have h3 : (runs bn).length = bn.length := by unfold runs; simp
  rw [List.length_append, List.length_append, List.map_append, List.sum_append, h3]
  show bn.length + ((D1.map (·.1)).flatMap fun k => touch (flat bn) (alike0 f turk D1 (k.headD 0))).length + ((D2.map (·.1)).flatMap fun k => touch (flat bn) ((D2.lookup k).getD [])).length ≤ _
  omega
/-- the closing of the runs is the closing of the set -/
theorem closed_norm {f : Int → Option Row} {turk : Bool} {D1 D2 : FD} {bn qs : List (Int × Int)} (hn : Norm bn) (hq : qs.Perm ((closedPairs f turk D1 D2 bn).filter GoodPair)) (hs : qs.Pairwise fun x y => x.1 ≤ y.1) :
    ∃ bn1, qs.foldl stepB [] = flat bn1 ∧ Norm bn1 ∧ ∀ c, inR bn1 c ↔ clo (groups f turk D1 D2) (inR bn) c := by
  have hm : ∀ p, p ∈ qs ↔ p ∈ closedPairs f turk D1 D2 bn ∧ p.1 ≤ p.2 := fun p => by
    rw [hq.mem_iff, List.mem_filter]
    unfold GoodPair
    rw [decide_eq_true_iff]
  obtain ⟨b1, e1, n1, m1⟩ := foldB_norm qs [] ⟨fun _ m => (nomatch m), .nil⟩ (fun p m => ((hm p).mp m).2) hs fun _ m => (nomatch m)
  refine ⟨b1, e1, n1, fun c => ?_⟩
  rw [m1]
  have h0 : ¬ inR [] c := fun ⟨_, m, _⟩ => nomatch m
  rw [or_iff_right h0]
  unfold clo
  constructor
  · rintro ⟨p, m, h⟩
    rcases closed_mem.mp ((hm p).mp m).1 with r | ⟨g, mg, ⟨o, mo, ho⟩, y, my, rfl⟩
    · unfold runs at r
      obtain ⟨q, n, rfl⟩ := List.mem_map.mp r
      exact .inl ⟨q, n, by dsimp only at h; omega⟩
    · obtain rfl : c = y := by dsimp only at h; omega
      exact .inr ⟨g, mg, ⟨o, mo, (hasS_in hn o).mp ho⟩, my⟩
  · rintro (⟨q, n, h⟩ | ⟨g, mg, ⟨o, mo, ho⟩, my⟩)
    · refine ⟨(q.1, q.2 - 1), (hm _).mpr ⟨closed_mem.mpr (.inl ?_), by dsimp only; omega⟩, by dsimp only; omega⟩
      unfold runs
      exact List.mem_map_of_mem (f := fun p : Int × Int => (p.1, p.2 - 1)) n
    · exact ⟨(c, c), (hm _).mpr ⟨closed_mem.mpr (.inr ⟨g, mg, ⟨o, mo, (hasS_in hn o).mpr ho⟩, c, my, rfl⟩), Int.le_refl _⟩, Int.le_refl _, Int.le_refl _⟩
theorem IxSeen.law {f : Int → Option Row} {turk : Bool} {D1 D2 : FD} (s : IxSeen f turk D1 D2 (groups f turk D1 D2)) (h1 : ∀ x ∈ D1, x.2.length ≤ 20) (h2 : ∀ x ∈ D2, x.2.length ≤ 20) (hl1 : D1.length < 64) (hl2 : D2.length < 64) : IxLaw f turk D1 D2 := by
  have lk : ∀ {D : FD} {k cs : List Int}, D.lookup k = some cs → (k, cs) ∈ D := by
    intro D k cs h
    induction D with
    | nil => cases h
    | cons a r ih =>
      rw [List.lookup_cons] at h
      by_cases q : k = a.1
      · rw [show (k == a.1) = true from by rw [q]; exact beq_self_eq_true _] at h
        cases h
        rw [q]; exact .head _
      · rw [beq_eq_false_iff_ne.mpr q] at h
        exact .tail _ (ih h)
  have hdr : ∀ g ∈ groups f turk D1 D2, ∀ o ∈ g, o ∈ pool := fun g mg o mo => List.contains_iff_mem.mp (List.all_eq_true.mp (List.all_eq_true.mp s.drawn g mg) o mo)
  have hma : ∀ x ∈ pool, ∀ o ∈ pool, (mateP f turk o x = true ↔ o = x ∨ ∃ g ∈ groups f turk D1 D2, x ∈ g ∧ o ∈ g) := fun x mx o mo => by
    have := eq_of_beq (List.all_eq_true.mp (List.all_eq_true.mp s.mates x mx) o mo)
    rw [this, Bool.or_eq_true, beq_iff_eq, List.any_eq_true]
    simp only [Bool.and_eq_true, List.contains_iff_mem]
  have hst : ∀ x ∈ pool, ∀ g ∈ groups f turk D1 D2, ∀ o ∈ g, mateP f turk o x = true → ∀ y ∈ g, mateP f turk y x = true := fun x mx g mg o mo ho y my => by
    have := List.all_eq_true.mp (List.all_eq_true.mp s.stays x mx) g mg
    rw [Bool.or_eq_true] at this
    rcases this with z | z
    · rw [Bool.not_eq_true'] at z
      have := List.any_eq_false.mp z o mo
      exact absurd ho this
    · exact List.all_eq_true.mp z y my
  have hsm := of_decide_eq_true s.small
  refine ⟨fun k cs h => h1 _ (lk h), fun k cs h => h2 _ (lk h), fun k m => ?_, fun k m => ?_, hl1, hl2, fun c mc ns ps p1 p2 p3 p4 => ?_, fun c mc hlt ns ps p1 p2 p3 p4 => ?_, fun c mc c2 mc2 qs hq hs => ?_⟩
  · obtain ⟨e, me, rfl⟩ := List.mem_map.mp m
    have := List.all_eq_true.mp s.keys1 e me
    rw [Bool.and_eq_true, decide_eq_true_iff, decide_eq_true_iff] at this
    exact this
  · obtain ⟨e, me, rfl⟩ := List.mem_map.mp m
    exact of_decide_eq_true (List.all_eq_true.mp s.keys2 e me)
  · exact perm_law (List.isPerm_iff.mp (List.all_eq_true.mp s.one c mc)) p1 p2 p3 p4
  · have := List.all_eq_true.mp s.many c mc
    rw [Bool.or_eq_true, decide_eq_true hlt] at this
    exact perm_law (List.isPerm_iff.mp (this.resolve_left (by decide))) p1 p2 p3 p4
  · have hm : ∀ p, p ∈ qs ↔ p = (c, c) ∨ p = (c2, c2) := fun p => by rw [hq.mem_iff]; simp
    obtain ⟨b0, e0, n0, m0⟩ := foldB_norm qs [] ⟨fun _ m => (nomatch m), .nil⟩ (fun p m => by rcases (hm p).mp m with rfl | rfl <;> exact Int.le_refl _) hs fun _ m => (nomatch m)
    have i0 : ∀ x, inR b0 x ↔ x = c ∨ x = c2 := fun x => by
      rw [m0]
      have h0 : ¬ inR [] x := fun ⟨_, m, _⟩ => nomatch m
      rw [or_iff_right h0]
      constructor
      · rintro ⟨p, m, h⟩
        rcases (hm p).mp m with rfl | rfl
        · exact .inl (by dsimp only at h; omega)
        · exact .inr (by dsimp only at h; omega)
      · rintro (rfl | rfl)
        · exact ⟨_, (hm _).mpr (.inl rfl), Int.le_refl _, Int.le_refl _⟩
        · exact ⟨_, (hm _).mpr (.inr rfl), Int.le_refl _, Int.le_refl _⟩
    have l0 : b0.length ≤ 2 := by
      have a := foldB_len qs []
      have e0' : qs.foldl stepB [] = flat b0 := e0
      rw [e0', flat_length, hq.length_eq] at a
      simp at a
      omega
    refine ⟨b0, e0, flat_sorted n0, by omega, ?_, fun qs1 hq1 hs1 => ?_⟩
    · have := closed_len (f := f) (turk := turk) (D1 := D1) (D2 := D2) (bn := b0)
      omega
    obtain ⟨b1, e1, n1, m1⟩ := closed_norm n0 hq1 hs1
    have i1 : ∀ x, inR b1 x ↔ x ∈ pool ∧ dueP f turk [c, c2] x = true := fun x => by
      have hd : dueP f turk [c, c2] x = true ↔ mateP f turk x c = true ∨ mateP f turk x c2 = true := by
        unfold dueP
        rw [Bool.not_eq_true', decide_eq_false_iff_not, List.filter_eq_nil_iff]
        simp only [List.mem_cons, List.not_mem_nil, or_false]
        constructor
        · intro h
          by_cases a : mateP f turk x c = true
          · exact .inl a
          · by_cases b : mateP f turk x c2 = true
            · exact .inr b
            · exact absurd (fun z hz => by rcases hz with rfl | rfl <;> assumption) h
        · rintro (h | h) g
          · exact g c (.inl rfl) h
          · exact g c2 (.inr rfl) h
      rw [m1, hd]
      unfold clo
      constructor
      · rintro (h | ⟨g, mg, ⟨o, mo, ho⟩, mx⟩)
        · rcases (i0 x).mp h with rfl | rfl
          · exact ⟨mc, .inl ((hma x mc x mc).mpr (.inl rfl))⟩
          · exact ⟨mc2, .inr ((hma x mc2 x mc2).mpr (.inl rfl))⟩
        · refine ⟨hdr g mg x mx, ?_⟩
          rcases (i0 o).mp ho with rfl | rfl
          · exact .inl ((hma o mc x (hdr g mg x mx)).mpr (.inr ⟨g, mg, mo, mx⟩))
          · exact .inr ((hma o mc2 x (hdr g mg x mx)).mpr (.inr ⟨g, mg, mo, mx⟩))
      · rintro ⟨mx, h | h⟩
        · rcases (hma c mc x mx).mp h with rfl | ⟨g, mg, a, b⟩
          · exact .inl ((i0 x).mpr (.inl rfl))
          · exact .inr ⟨g, mg, ⟨c, a, (i0 c).mpr (.inl rfl)⟩, b⟩
        · rcases (hma c2 mc2 x mx).mp h with rfl | ⟨g, mg, a, b⟩
          · exact .inl ((i0 x).mpr (.inr rfl))
          · exact .inr ⟨g, mg, ⟨c2, a, (i0 c2).mpr (.inr rfl)⟩, b⟩
    have due : ∀ x, dueP f turk [c, c2] x = true ↔ mateP f turk x c = true ∨ mateP f turk x c2 = true := fun x => by
      unfold dueP
      rw [Bool.not_eq_true', decide_eq_false_iff_not, List.filter_eq_nil_iff]
      simp only [List.mem_cons, List.not_mem_nil, or_false]
      constructor
      · intro h
        by_cases a : mateP f turk x c = true
        · exact .inl a
        · by_cases b : mateP f turk x c2 = true
          · exact .inr b
          · exact absurd (fun z hz => by rcases hz with rfl | rfl <;> assumption) h
      · rintro (h | h) g
        · exact g c (.inl rfl) h
        · exact g c2 (.inr rfl) h
    have cw : ∀ ps : List Int, ps.Perm pool → ps.Pairwise (· ≤ ·) → codesOf b1 = ps.filter (dueP f turk [c, c2]) := fun ps hp hps => by
      have nd : ps.Nodup := hp.nodup_iff.mpr (by decide)
      have hlt : ps.Pairwise (· < ·) := (hps.and nd).imp fun h => by omega
      refine sorted_uniq (codes_sorted n1) (hlt.filter _) fun x => ?_
      rw [codes_in, i1, List.mem_filter, hp.mem_iff]
    have pl : (pool.mergeSort (fun a b => decide (a ≤ b))).Perm pool := List.mergeSort_perm _ _
    have ps : (pool.mergeSort (fun a b => decide (a ≤ b))).Pairwise (· ≤ ·) := (List.pairwise_mergeSort (le := fun a b : Int => decide (a ≤ b)) (fun a b c h1 h2 => by simp at *; omega) (fun a b => by simp; omega) pool).imp fun h => of_decide_eq_true h
    have c14 : (codesOf b1).length ≤ 14 := by
      rw [cw _ pl ps]
      have := List.length_filter_le (dueP f turk [c, c2]) (pool.mergeSort (fun a b => decide (a ≤ b)))
      rw [pl.length_eq] at this
      exact this
    obtain ⟨g1, g2⟩ := codes_ge n1.pos
    refine ⟨b1, e1, flat_sorted n1, ⟨by omega, fun p m => ?_⟩, ?_, cw, fun qs2 hq2 hs2 => ?_⟩
    · have hp := n1.pos p m
      have := g2 p m
      have mp := ((i1 p.1).mp ⟨p, m, Int.le_refl _, hp⟩).1
      have := (by decide : ∀ x ∈ pool, 0 ≤ x ∧ x ≤ 1000000) p.1 mp
      omega
    · have := closed_len (f := f) (turk := turk) (D1 := D1) (D2 := D2) (bn := b1)
      omega
    · obtain ⟨b2, e2, n2, m2⟩ := closed_norm n1 hq2 hs2
      rw [e2, Norm.uniq n2 n1 fun x => ?_]
      rw [m2]
      unfold clo
      refine ⟨fun h => ?_, .inl⟩
      rcases h with h | ⟨g, mg, ⟨o, mo, ho⟩, mx⟩
      · exact h
      · obtain ⟨_, q⟩ := (i1 o).mp ho
        refine (i1 x).mpr ⟨hdr g mg x mx, (due x).mpr ?_⟩
        exact ((due o).mp q).imp (fun q => hst c mc g mg o mo q x mx) fun q => hst c2 mc2 g mg o mo q x mx
end Nt
end
section
open PySem PySem.W PyProof.Rows PySem.Calls
set_option maxRecDepth 100000
set_option autoImplicit false
set_option linter.unusedVariables false
namespace Nt
noncomputable def ks7 : List Int := [65, 66, 73, 223, 304, 7838, 8490]
noncomputable def ks8 : List Int := [65, 66, 73, 223, 304, 7838, 8490, 64261]
noncomputable def st7 : List Int := [0, 65, 66, 67, 73, 74, 223, 224, 304, 305, 7838, 7839, 8490, 8491]
noncomputable def st8 : List Int := [0, 65, 66, 67, 73, 74, 223, 224, 304, 305, 7838, 7839, 8490, 8491, 64261, 64262]
noncomputable def vs7 (f : Int → Option Row) : List (Option Row) := [none, f 65, f 66, none, f 73, none, f 223, none, f 304, none, f 7838, none, f 8490, none]
noncomputable def vs8 (f : Int → Option Row) : List (Option Row) := [none, f 65, f 66, none, f 73, none, f 223, none, f 304, none, f 7838, none, f 8490, none, f 64261, none]
theorem tab7 (f : Int → Option Row) : tabAt f ks7 = (st7, vs7 f) := by simp [tabAt, ks7, tabPut, putStarts, putVals, bis, List.takeWhile, st7, vs7]
theorem tab8 (f : Int → Option Row) : tabAt f ks8 = (st8, vs8 f) := by simp [tabAt, ks8, tabPut, putStarts, putVals, bis, List.takeWhile, st8, vs8]
/-- the values are the function's, from start to start -/
noncomputable def Fits (f : Int → Option Row) : List Int → List (Option Row) → Prop
  | s :: s' :: r, v :: vs => (∀ c, s ≤ c → c < s' → f c = v) ∧ Fits f (s' :: r) vs
  | [s], v :: vs => ∀ c, s ≤ c → f c = v
  | _, _ => False
theorem fits_val {f : Int → Option Row} : ∀ {starts : List Int} {vals : List (Option Row)}, Fits f starts vals → starts.Pairwise (· ≤ ·) → ∀ c, starts.headD 0 ≤ c → 1 ≤ bis starts c ∧ vals[bis starts c - 1]? = some (f c)
  | [s], v :: vs, h, _, c, hc => by
    have hc : s ≤ c := hc
    rw [bis_cons, if_pos hc, h c hc]
    exact ⟨Nat.le_add_left _ _, rfl⟩
  | s :: s' :: r, v :: vs, h, hs, c, hc => by
    have hc : s ≤ c := hc
    obtain ⟨h1, h2⟩ := h
    rw [bis_cons, if_pos hc]
    by_cases q : s' ≤ c
    · have i := fits_val h2 (List.pairwise_cons.mp hs).2 c q
      refine ⟨by omega, ?_⟩
      rw [show bis (s' :: r) c + 1 - 1 = (bis (s' :: r) c - 1) + 1 by omega, List.getElem?_cons_succ]
      exact i.2
    · rw [bis_cons, if_neg q, h1 c hc (by omega)]
      exact ⟨Nat.le_refl _, rfl⟩
theorem fits7 {f : Int → Option Row} (h : ∀ c, c ∉ ks7 → f c = none) : Fits f st7 (vs7 f) := by
  have z : ∀ a b : Int, (ks7.all fun k => decide (k < a) || decide (b ≤ k)) = true → ∀ c, a ≤ c → c < b → f c = none := fun a b q c h1 h2 => h c fun m => by
    have := List.all_eq_true.mp q c m
    simp at this
    omega
  have y : ∀ a : Int, (ks7.all fun k => decide (k < a)) = true → ∀ c, a ≤ c → f c = none := fun a q c h1 => h c fun m => by
    have := List.all_eq_true.mp q c m
    simp at this
    omega
  have o : ∀ k c : Int, k ≤ c → c < k + 1 → f c = f k := fun k c h1 h2 => by rw [show c = k by omega]
  exact ⟨z _ _ (by decide), o _, o _, z _ _ (by decide), o _, z _ _ (by decide), o _, z _ _ (by decide), o _, z _ _ (by decide), o _, z _ _ (by decide), o _, y _ (by decide)⟩
theorem fits8 {f : Int → Option Row} (h : ∀ c, c ∉ ks8 → f c = none) : Fits f st8 (vs8 f) := by
  have z : ∀ a b : Int, (ks8.all fun k => decide (k < a) || decide (b ≤ k)) = true → ∀ c, a ≤ c → c < b → f c = none := fun a b q c h1 h2 => h c fun m => by
    have := List.all_eq_true.mp q c m
    simp at this
    omega
  have y : ∀ a : Int, (ks8.all fun k => decide (k < a)) = true → ∀ c, a ≤ c → f c = none := fun a q c h1 => h c fun m => by
    have := List.all_eq_true.mp q c m
    simp at this
    omega
  have o : ∀ k c : Int, k ≤ c → c < k + 1 → f c = f k := fun k c h1 h2 => by rw [show c = k by omega]
  exact ⟨z _ _ (by decide), o _, o _, z _ _ (by decide), o _, z _ _ (by decide), o _, z _ _ (by decide), o _, z _ _ (by decide), o _, z _ _ (by decide), o _, z _ _ (by decide), o _, y _ (by decide)⟩
theorem good7 {f : Int → Option Row} (h : ∀ c, c ∉ ks7 → f c = none) : Good st7 (vs7 f) f :=
  ⟨by decide, by decide, fun c hc => fits_val (fits7 h) (by decide) c hc⟩
theorem good8 {f : Int → Option Row} (h : ∀ c, c ∉ ks8 → f c = none) : Good st8 (vs8 f) f :=
  ⟨by decide, by decide, fun c hc => fits_val (fits8 h) (by decide) c hc⟩
/-- a table whose rows are rightly made -/
noncomputable def RowsOk (T : List (Int × Row)) : Prop := ∀ e ∈ T, ∀ kv ∈ e.2, kv.2 ≠ [] ∧ kv.2.length ≤ 3 ∧ ∀ k ∈ kv.2, 0 ≤ k
theorem lookup_in {α β : Type} [BEq α] [LawfulBEq α] {k : α} {v : β} : ∀ {D : List (α × β)}, D.lookup k = some v → (k, v) ∈ D
  | [], h => by cases h
  | a :: r, h => by
    rw [List.lookup_cons] at h
    cases q : k == a.1 with
    | true => rw [q] at h; cases h; rw [eq_of_beq q]; exact .head _
    | false => rw [q] at h; exact .tail _ (lookup_in h)
theorem lookup_out {α β : Type} [BEq α] [LawfulBEq α] {k : α} : ∀ {D : List (α × β)}, k ∉ D.map (·.1) → D.lookup k = none
  | [], _ => rfl
  | a :: r, h => by
    rw [List.lookup_cons, beq_eq_false_iff_ne.mpr fun e => h (by rw [e]; exact .head _)]
    exact lookup_out fun m => h (.tail _ m)
theorem pick_in {row : Row} {ks : List Int} : ∀ {ss : List Str}, pick row ss = some ks → ∃ s, (s, ks) ∈ row
  | [], h => by cases h
  | s :: r, h => by
    unfold pick at h
    cases q : row.lookup s with
    | some k => rw [q] at h; cases h; exact ⟨s, lookup_in q⟩
    | none => rw [q] at h; exact pick_in h
theorem foldS_in {T : List (Int × Row)} (h : RowsOk T) (ss : List Str) (c : Int) : foldS (fT T) ss c = [c] ∨ (foldS (fT T) ss c ≠ [] ∧ (foldS (fT T) ss c).length ≤ 3 ∧ ∀ k ∈ foldS (fT T) ss c, 0 ≤ k) := by
  unfold foldS
  cases q : fT T c with
  | none => exact .inl rfl
  | some row =>
    dsimp only
    cases p : pick row ss with
    | none => exact .inl rfl
    | some ks =>
      obtain ⟨s, m⟩ := pick_in p
      exact .inr (h _ (lookup_in q) _ m)
theorem rows_short {T : List (Int × Row)} (h : RowsOk T) : Short (fT T) := by
  refine ⟨fun ss c => ?_, fun ss c hc k m => ?_⟩
  · rcases foldS_in h ss c with q | q
    · rw [q]; exact (by decide : 1 ≤ 3)
    · exact q.2.1
  · rcases foldS_in h ss c with q | q
    · rw [q] at m; rw [List.mem_singleton.mp m]; exact hc
    · exact q.2.2 k m
theorem rows_ne {T : List (Int × Row)} (h : RowsOk T) (ss : List Str) (c : Int) : foldS (fT T) ss c ≠ [] := by
  rcases foldS_in h ss c with q | q
  · rw [q]; exact fun e => nomatch e
  · exact q.1
theorem put_ok {starts : List Int} {vals : List (Option Row)} {c : Int} {r : Row} (h : decide (1 ≤ c ∧ c < 1114111 ∧ starts.Pairwise (· ≤ ·) ∧ starts.length ≤ 900 ∧ 1 ≤ bis starts (c - 1) ∧ bis starts (c - 1) ≤ bis starts (c + 1)) = true) (hl : starts.length = vals.length)
    (hb : vals[bis starts (c + 1) - 1]? = some none) (hv : ∃ b, vals[bis starts (c - 1) - 1]? = some b ∧ LikeOk b (some r)) : PutOk starts vals c r := by
  obtain ⟨h1, h2, h3, h4, h5, h6⟩ := of_decide_eq_true h
  exact ⟨h1, h2, h3, hl, h4, h5, h6, hb, hv⟩
theorem toldL_rows {c1 c2 c3 : Int} {o : Option Bool} (h1 : 0 ≤ c1) (h2 : 0 ≤ c2) (h3 : 0 ≤ c3) : RowsOk (toldL c1 c2 c3 o) := by
  unfold RowsOk toldL
  rcases o with _ | _ | _ <;> simp <;> refine ⟨?_, ?_⟩ <;> repeat' (refine And.intro ?_ ?_)
  all_goals first
    | omega
    | (rintro a b (⟨rfl, rfl⟩ | ⟨rfl, rfl⟩) <;> simp <;> omega)
    | (rintro a b (⟨rfl, rfl⟩ | ⟨rfl, rfl⟩) <;> simp)
    | (rintro a b (⟨rfl, rfl⟩ | ⟨rfl, rfl⟩)
       · simp; omega
       · simp)
/-- what evaluation must say of a table -/
structure TabSeen (T : List (Int × Row)) (ks : List Int) : Prop where
  idem : ([false, true].all fun full => [false, true].all fun turk => pool.all fun c => txt (fT T) (stsOf full turk) (foldS (fT T) (stsOf full turk) c) == foldS (fT T) (stsOf full turk) c) = true
  ix : ∀ turk, IxSeen (fT T) turk (ixOne (fT T) turk ks) (ixMany (fT T) turk ks) (groups (fT T) turk (ixOne (fT T) turk ks) (ixMany (fT T) turk ks))
theorem TabSeen.idemP {T : List (Int × Row)} {ks : List Int} (s : TabSeen T ks) (full turk : Bool) : ∀ c ∈ pool, txt (fT T) (stsOf full turk) (foldS (fT T) (stsOf full turk) c) = foldS (fT T) (stsOf full turk) c := fun c mc => by
  have b : ∀ b : Bool, b ∈ [false, true] := by decide
  exact eq_of_beq (List.all_eq_true.mp (List.all_eq_true.mp (List.all_eq_true.mp s.idem full (b _)) turk (b _)) c mc)
theorem TabSeen.ixP {T : List (Int × Row)} {ks : List Int} (s : TabSeen T ks) (hk : ks.length ≤ 20) (turk : Bool) : IxLaw (fT T) turk (ixOne (fT T) turk ks) (ixMany (fT T) turk ks) := by
  have b1 := ixOne_bound (fT T) turk ks
  have b2 := ixMany_bound (fT T) turk ks
  exact (s.ix turk).law (fun x m => by have := b1.2 x m; omega) (fun x m => by have := b2.2 x m; omega) (by have := b1.1; omega) (by have := b2.1; omega)
theorem keys_srt {T : List (Int × Row)} {ks : List Int} (h : (T.map (·.1)).isPerm ks = true) (hs : ks.Pairwise (· ≤ ·)) : ∀ ns : List Int, ns.Perm (T.map (·.1)) → ns.Pairwise (· ≤ ·) → ns = ks :=
  fun ns h1 h2 => perm_uniq (h1.trans (List.isPerm_iff.mp h)) h2 hs
theorem keys_none {T : List (Int × Row)} {ks : List Int} (h : (T.map (·.1)).isPerm ks = true) : ∀ c, c ∉ ks → fT T c = none :=
  fun c hc => lookup_out fun m => hc ((List.isPerm_iff.mp h).mem_iff.mp m)
end Nt
end
section
open PySem PySem.W PyProof.Rows PySem.Calls
set_option maxRecDepth 100000
set_option autoImplicit false
set_option linter.unusedVariables false
namespace Nt
theorem put8 {f : Int → Option Row} {x y : List Int} (h65 : f 65 = some [(("C" : Str), x)]) (h66 : f 66 = some [(("C" : Str), y)]) (hxy : x ≠ y) : ∀ (i : Nat) (c : Int) (r : Row), ks8[i]? = some c → f c = some r → PutOk (tabAt f (ks8.take i)).1 (tabAt f (ks8.take i)).2 c r
  | 0, c, r, hc, hr => by
    obtain rfl : (65 : Int) = c := by simpa [ks8] using hc
    show PutOk [0] [none] 65 r
    exact put_ok (by decide) rfl rfl ⟨none, rfl, .inl rfl⟩
  | 1, c, r, hc, hr => by
    obtain rfl : (66 : Int) = c := by simpa [ks8] using hc
    rw [show tabAt f (ks8.take 1) = ([0, 65, 66], [none, f 65, none]) from by simp [tabAt, ks8, tabPut, putStarts, putVals, bis, List.takeWhile]]
    rw [h66] at hr
    cases hr
    dsimp only
    exact put_ok (by decide) rfl rfl ⟨f 65, rfl, .inr (.inr ⟨x, y, h65, rfl, hxy⟩)⟩
  | 2, c, r, hc, hr => by
    obtain rfl : (73 : Int) = c := by simpa [ks8] using hc
    rw [show tabAt f (ks8.take 2) = ([0, 65, 66, 67], [none, f 65, f 66, none]) from by simp [tabAt, ks8, tabPut, putStarts, putVals, bis, List.takeWhile]]
    dsimp only
    exact put_ok (by decide) rfl rfl ⟨none, rfl, .inl rfl⟩
  | 3, c, r, hc, hr => by
    obtain rfl : (223 : Int) = c := by simpa [ks8] using hc
    rw [show tabAt f (ks8.take 3) = ([0, 65, 66, 67, 73, 74], [none, f 65, f 66, none, f 73, none]) from by simp [tabAt, ks8, tabPut, putStarts, putVals, bis, List.takeWhile]]
    dsimp only
    exact put_ok (by decide) rfl rfl ⟨none, rfl, .inl rfl⟩
  | 4, c, r, hc, hr => by
    obtain rfl : (304 : Int) = c := by simpa [ks8] using hc
    rw [show tabAt f (ks8.take 4) = ([0, 65, 66, 67, 73, 74, 223, 224], [none, f 65, f 66, none, f 73, none, f 223, none]) from by simp [tabAt, ks8, tabPut, putStarts, putVals, bis, List.takeWhile]]
    dsimp only
    exact put_ok (by decide) rfl rfl ⟨none, rfl, .inl rfl⟩
  | 5, c, r, hc, hr => by
    obtain rfl : (7838 : Int) = c := by simpa [ks8] using hc
    rw [show tabAt f (ks8.take 5) = ([0, 65, 66, 67, 73, 74, 223, 224, 304, 305], [none, f 65, f 66, none, f 73, none, f 223, none, f 304, none]) from by simp [tabAt, ks8, tabPut, putStarts, putVals, bis, List.takeWhile]]
    dsimp only
    exact put_ok (by decide) rfl rfl ⟨none, rfl, .inl rfl⟩
  | 6, c, r, hc, hr => by
    obtain rfl : (8490 : Int) = c := by simpa [ks8] using hc
    rw [show tabAt f (ks8.take 6) = ([0, 65, 66, 67, 73, 74, 223, 224, 304, 305, 7838, 7839], [none, f 65, f 66, none, f 73, none, f 223, none, f 304, none, f 7838, none]) from by simp [tabAt, ks8, tabPut, putStarts, putVals, bis, List.takeWhile]]
    dsimp only
    exact put_ok (by decide) rfl rfl ⟨none, rfl, .inl rfl⟩
  | 7, c, r, hc, hr => by
    obtain rfl : (64261 : Int) = c := by simpa [ks8] using hc
    rw [show tabAt f (ks8.take 7) = (st7, vs7 f) from tab7 f]
    dsimp only
    exact put_ok (by decide) rfl rfl ⟨none, rfl, .inl rfl⟩
  | n + 8, c, r, hc, hr => by simp [ks8] at hc
theorem put7 {f : Int → Option Row} {x y : List Int} (h65 : f 65 = some [(("C" : Str), x)]) (h66 : f 66 = some [(("C" : Str), y)]) (hxy : x ≠ y) (i : Nat) (c : Int) (r : Row) (hc : ks7[i]? = some c) (hr : f c = some r) : PutOk (tabAt f (ks7.take i)).1 (tabAt f (ks7.take i)).2 c r := by
  have hi : i < ks7.length := (List.getElem?_eq_some_iff.mp hc).1
  have e : ks8 = ks7 ++ [64261] := rfl
  have t : ks7.take i = ks8.take i := by rw [e, List.take_append_of_le_length (Nat.le_of_lt hi)]
  rw [t]
  exact put8 h65 h66 hxy i c r (by rw [e, List.getElem?_append_left hi]; exact hc) hr
theorem rows7 {f : Int → Option Row} (h : ∀ c ∈ ks7, (f c).isSome = true) : setRows st7 (vs7 f) = ks7.map fun c => (c, c, f c) := by
  have e : rowsOf st7 (vs7 f) = [(0, 64, none), (65, 65, f 65), (66, 66, f 66), (67, 72, none), (73, 73, f 73), (74, 222, none), (223, 223, f 223), (224, 303, none), (304, 304, f 304), (305, 7837, none), (7838, 7838, f 7838), (7839, 8489, none), (8490, 8490, f 8490), (8491, 1114111, none)] := rfl
  unfold setRows
  rw [e]
  simp [ks7, h 65 (by decide), h 66 (by decide), h 73 (by decide), h 223 (by decide), h 304 (by decide), h 7838 (by decide), h 8490 (by decide)]
theorem rows8 {f : Int → Option Row} (h : ∀ c ∈ ks8, (f c).isSome = true) : setRows st8 (vs8 f) = ks8.map fun c => (c, c, f c) := by
  have e : rowsOf st8 (vs8 f) = [(0, 64, none), (65, 65, f 65), (66, 66, f 66), (67, 72, none), (73, 73, f 73), (74, 222, none), (223, 223, f 223), (224, 303, none), (304, 304, f 304), (305, 7837, none), (7838, 7838, f 7838), (7839, 8489, none), (8490, 8490, f 8490), (8491, 64260, none), (64261, 64261, f 64261), (64262, 1114111, none)] := rfl
  unfold setRows
  rw [e]
  simp [ks8, h 65 (by decide), h 66 (by decide), h 73 (by decide), h 223 (by decide), h 304 (by decide), h 7838 (by decide), h 8490 (by decide), h 64261 (by decide)]
theorem tab_ok7 {c1 c2 c3 : Int} (h1 : 0 ≤ c1) (h2 : 0 ≤ c2) (h3 : 0 ≤ c3) (s : TabSeen (toldL c1 c2 c3 none) ks7) : TabOk (toldL c1 c2 c3 none) ks7 := by
  have hp : ((toldL c1 c2 c3 none).map (·.1)).isPerm ks7 = true := by
    rw [show (toldL c1 c2 c3 none).map (·.1) = [65, 66, 8490, 223, 7838, 73, 304] from rfl]
    decide
  have hk : ∀ c ∈ ks7, (fT (toldL c1 c2 c3 none) c).isSome = true := by
    have : ∀ c ∈ [65, 66, 73, 223, 304, 7838, 8490], (fT (toldL c1 c2 c3 none) c).isSome = true := by simp [fT, toldL, List.lookup]
    exact this
  have hro := toldL_rows (c1 := c1) (c2 := c2) (c3 := c3) (o := none) h1 h2 h3
  refine ⟨by simp [toldL], keys_srt hp (by decide), by decide, fun i c hc => ?_, ?_, ?_, ?_, ?_, by decide, fun c hc => ⟨?_, ?_, hk c hc⟩, rows_short hro, rows_ne hro, s.idemP, s.ixP (by decide)⟩
  · have := hk c (List.mem_of_getElem? hc)
    obtain ⟨r, hr⟩ := Option.isSome_iff_exists.mp this
    exact ⟨r, hr, put7 (x := [97]) (y := [98]) rfl rfl (by decide) i c r hc hr⟩
  · rw [tab7]; exact good7 (keys_none hp)
  · rw [tab7]; rfl
  · rw [tab7]; exact (by decide : 14 ≤ 900)
  · rw [tab7]; exact rows7 hk
  · exact (by decide : ∀ c ∈ ks7, 0 ≤ c) c hc
  · exact (by decide : ∀ c ∈ ks7, c ≤ 1000000) c hc
theorem tab_ok8 {c1 c2 c3 : Int} {b : Bool} (h1 : 0 ≤ c1) (h2 : 0 ≤ c2) (h3 : 0 ≤ c3) (s : TabSeen (toldL c1 c2 c3 (some b)) ks8) : TabOk (toldL c1 c2 c3 (some b)) ks8 := by
  have hp : ((toldL c1 c2 c3 (some b)).map (·.1)).isPerm ks8 = true := by
    rw [show (toldL c1 c2 c3 (some b)).map (·.1) = [65, 66, 8490, 223, 7838, 64261, 73, 304] from rfl]
    decide
  have hk : ∀ c ∈ ks8, (fT (toldL c1 c2 c3 (some b)) c).isSome = true := by
    have : ∀ c ∈ [65, 66, 73, 223, 304, 7838, 8490, 64261], (fT (toldL c1 c2 c3 (some b)) c).isSome = true := by simp [fT, toldL, List.lookup]
    exact this
  have hro := toldL_rows (c1 := c1) (c2 := c2) (c3 := c3) (o := some b) h1 h2 h3
  refine ⟨by simp [toldL], keys_srt hp (by decide), by decide, fun i c hc => ?_, ?_, ?_, ?_, ?_, by decide, fun c hc => ⟨?_, ?_, hk c hc⟩, rows_short hro, rows_ne hro, s.idemP, s.ixP (by decide)⟩
  · have := hk c (List.mem_of_getElem? hc)
    obtain ⟨r, hr⟩ := Option.isSome_iff_exists.mp this
    exact ⟨r, hr, put8 (x := [97]) (y := [98]) rfl rfl (by decide) i c r hc hr⟩
  · rw [tab8]; exact good8 (keys_none hp)
  · rw [tab8]; rfl
  · rw [tab8]; exact (by decide : 16 ≤ 900)
  · rw [tab8]; exact rows8 hk
  · exact (by decide : ∀ c ∈ ks8, 0 ≤ c) c hc
  · exact (by decide : ∀ c ∈ ks8, c ≤ 1000000) c hc
end Nt
end
section
open PySem PySem.W PyProof.Rows PySem.Calls
set_option maxRecDepth 100000
set_option autoImplicit false
set_option linter.unusedVariables false
namespace Nt
/-- the indexes, written out -/
noncomputable def lit1 (c1 : Int) (t : Bool) : FD :=
  let h : FD := if t then [([305], [73]), ([105], [304]), ([223], [7838])] else [([105], [73]), ([223], [7838])]
  if c1 = 0 then ([97], [65, 8490]) :: ([98], [66]) :: h
  else if c1 = 1 then ([97], [65]) :: ([98], [66, 8490]) :: h
  else ([97], [65]) :: ([98], [66]) :: (h ++ [([99], [8490])])
noncomputable def lit2 (c2 c3 : Int) (o : Option Bool) (t : Bool) : FD :=
  let h : FD := if t then [] else [([105, 775], [304])]
  match o with
  | none => ([97 + c2, 97 + c3], [223, 7838]) :: h
  | some true => ([97 + c2, 97 + c3], [223, 7838, 64261]) :: h
  | some false => ([97 + c2, 97 + c3], [223, 7838]) :: (h ++ [([99, 775], [64261])])
noncomputable def litG (c1 : Int) (o : Option Bool) (t : Bool) : List (List Int) :=
  let h : List (List Int) := if t then [[73, 305], [304, 105], [7838, 223]] else [[73, 105], [7838, 223]]
  let k : List (List Int) := if t then [] else [[304]]
  (if c1 = 0 then [65, 8490, 97] :: [66, 98] :: h
   else if c1 = 1 then [65, 97] :: [66, 8490, 98] :: h
   else [65, 97] :: [66, 98] :: (h ++ [[8490, 99]])) ++
  (match o with
  | none => [223, 7838] :: k
  | some true => [223, 7838, 64261] :: k
  | some false => [223, 7838] :: (k ++ [[64261]]))
noncomputable def seenB (f : Int → Option Row) (turk : Bool) (ks : List Int) (D1 D2 : FD) (G : List (List Int)) : Bool :=
  ixOne f turk ks == D1 && ixMany f turk ks == D2 && groups f turk D1 D2 == G &&
  ((D1.all fun e => decide (e.1 ≠ []) && decide (0 ≤ e.1.headD 0)) && (D2.all fun e => decide (e.1 ≠ []))) &&
  (pool.all fun c => (alike0 f turk D1 c).isPerm (pool.filter fun o => likeS f turk o c)) &&
  (pool.all fun c => !decide (1 < ((foldS f (stsOf true turk) c).length : Int)) || ((D2.lookup (foldS f (stsOf true turk) c)).getD []).isPerm (pool.filter fun o => likeF f turk o c)) &&
  (G.all fun g => g.all fun o => pool.contains o) &&
  (pool.all fun x => pool.all fun o => mateP f turk o x == (o == x || G.any fun g => g.contains x && g.contains o)) &&
  (pool.all fun x => G.all fun g => !(g.any fun o => mateP f turk o x) || g.all fun y => mateP f turk y x) &&
  decide ((G.map List.length).sum ≤ 40) &&
  ([false, true].all fun full => pool.all fun c => txt f (stsOf full turk) (foldS f (stsOf full turk) c) == foldS f (stsOf full turk) c)
theorem seen0f0 : ∀ c2 ∈ ([0, 1, 2] : List Int), ∀ c3 ∈ ([0, 1, 2] : List Int), seenB (fT (toldL 0 c2 c3 none)) false ks7 (lit1 0 false) (lit2 c2 c3 none false) (litG 0 none false) = true := by decide +kernel
theorem seen0f1 : ∀ c2 ∈ ([0, 1, 2] : List Int), ∀ c3 ∈ ([0, 1, 2] : List Int), seenB (fT (toldL 1 c2 c3 none)) false ks7 (lit1 1 false) (lit2 c2 c3 none false) (litG 1 none false) = true := by decide +kernel
theorem seen0f2 : ∀ c2 ∈ ([0, 1, 2] : List Int), ∀ c3 ∈ ([0, 1, 2] : List Int), seenB (fT (toldL 2 c2 c3 none)) false ks7 (lit1 2 false) (lit2 c2 c3 none false) (litG 2 none false) = true := by decide +kernel
theorem seen0t0 : ∀ c2 ∈ ([0, 1, 2] : List Int), ∀ c3 ∈ ([0, 1, 2] : List Int), seenB (fT (toldL 0 c2 c3 none)) true ks7 (lit1 0 true) (lit2 c2 c3 none true) (litG 0 none true) = true := by decide +kernel
theorem seen0t1 : ∀ c2 ∈ ([0, 1, 2] : List Int), ∀ c3 ∈ ([0, 1, 2] : List Int), seenB (fT (toldL 1 c2 c3 none)) true ks7 (lit1 1 true) (lit2 c2 c3 none true) (litG 1 none true) = true := by decide +kernel
theorem seen0t2 : ∀ c2 ∈ ([0, 1, 2] : List Int), ∀ c3 ∈ ([0, 1, 2] : List Int), seenB (fT (toldL 2 c2 c3 none)) true ks7 (lit1 2 true) (lit2 c2 c3 none true) (litG 2 none true) = true := by decide +kernel
theorem seen1f0 : ∀ c2 ∈ ([0, 1, 2] : List Int), ∀ c3 ∈ ([0, 1, 2] : List Int), seenB (fT (toldL 0 c2 c3 (some true))) false ks8 (lit1 0 false) (lit2 c2 c3 (some true) false) (litG 0 (some true) false) = true := by decide +kernel
theorem seen1f1 : ∀ c2 ∈ ([0, 1, 2] : List Int), ∀ c3 ∈ ([0, 1, 2] : List Int), seenB (fT (toldL 1 c2 c3 (some true))) false ks8 (lit1 1 false) (lit2 c2 c3 (some true) false) (litG 1 (some true) false) = true := by decide +kernel
theorem seen1f2 : ∀ c2 ∈ ([0, 1, 2] : List Int), ∀ c3 ∈ ([0, 1, 2] : List Int), seenB (fT (toldL 2 c2 c3 (some true))) false ks8 (lit1 2 false) (lit2 c2 c3 (some true) false) (litG 2 (some true) false) = true := by decide +kernel
theorem seen1t0 : ∀ c2 ∈ ([0, 1, 2] : List Int), ∀ c3 ∈ ([0, 1, 2] : List Int), seenB (fT (toldL 0 c2 c3 (some true))) true ks8 (lit1 0 true) (lit2 c2 c3 (some true) true) (litG 0 (some true) true) = true := by decide +kernel
theorem seen1t1 : ∀ c2 ∈ ([0, 1, 2] : List Int), ∀ c3 ∈ ([0, 1, 2] : List Int), seenB (fT (toldL 1 c2 c3 (some true))) true ks8 (lit1 1 true) (lit2 c2 c3 (some true) true) (litG 1 (some true) true) = true := by decide +kernel
theorem seen1t2 : ∀ c2 ∈ ([0, 1, 2] : List Int), ∀ c3 ∈ ([0, 1, 2] : List Int), seenB (fT (toldL 2 c2 c3 (some true))) true ks8 (lit1 2 true) (lit2 c2 c3 (some true) true) (litG 2 (some true) true) = true := by decide +kernel
theorem seen2f0 : ∀ c2 ∈ ([0, 1, 2] : List Int), ∀ c3 ∈ ([0, 1, 2] : List Int), seenB (fT (toldL 0 c2 c3 (some false))) false ks8 (lit1 0 false) (lit2 c2 c3 (some false) false) (litG 0 (some false) false) = true := by decide +kernel
theorem seen2f1 : ∀ c2 ∈ ([0, 1, 2] : List Int), ∀ c3 ∈ ([0, 1, 2] : List Int), seenB (fT (toldL 1 c2 c3 (some false))) false ks8 (lit1 1 false) (lit2 c2 c3 (some false) false) (litG 1 (some false) false) = true := by decide +kernel
theorem seen2f2 : ∀ c2 ∈ ([0, 1, 2] : List Int), ∀ c3 ∈ ([0, 1, 2] : List Int), seenB (fT (toldL 2 c2 c3 (some false))) false ks8 (lit1 2 false) (lit2 c2 c3 (some false) false) (litG 2 (some false) false) = true := by decide +kernel
theorem seen2t0 : ∀ c2 ∈ ([0, 1, 2] : List Int), ∀ c3 ∈ ([0, 1, 2] : List Int), seenB (fT (toldL 0 c2 c3 (some false))) true ks8 (lit1 0 true) (lit2 c2 c3 (some false) true) (litG 0 (some false) true) = true := by decide +kernel
theorem seen2t1 : ∀ c2 ∈ ([0, 1, 2] : List Int), ∀ c3 ∈ ([0, 1, 2] : List Int), seenB (fT (toldL 1 c2 c3 (some false))) true ks8 (lit1 1 true) (lit2 c2 c3 (some false) true) (litG 1 (some false) true) = true := by decide +kernel
theorem seen2t2 : ∀ c2 ∈ ([0, 1, 2] : List Int), ∀ c3 ∈ ([0, 1, 2] : List Int), seenB (fT (toldL 2 c2 c3 (some false))) true ks8 (lit1 2 true) (lit2 c2 c3 (some false) true) (litG 2 (some false) true) = true := by decide +kernel
theorem seenB_ix {f : Int → Option Row} {turk : Bool} {ks : List Int} {D1 D2 : FD} {G : List (List Int)} (h : seenB f turk ks D1 D2 G = true) : IxSeen f turk (ixOne f turk ks) (ixMany f turk ks) (groups f turk (ixOne f turk ks) (ixMany f turk ks)) ∧
    ([false, true].all fun full => pool.all fun c => txt f (stsOf full turk) (foldS f (stsOf full turk) c) == foldS f (stsOf full turk) c) = true := by
  unfold seenB at h
  simp only [Bool.and_eq_true] at h
  obtain ⟨⟨⟨⟨⟨⟨⟨⟨⟨⟨a, b⟩, c⟩, ⟨d1, d2⟩⟩, e⟩, g⟩, i⟩, j⟩, k⟩, l⟩, m⟩ := h
  obtain rfl := eq_of_beq a
  obtain rfl := eq_of_beq b
  obtain rfl := eq_of_beq c
  refine ⟨⟨?_, d2, e, g, i, j, k, l⟩, m⟩
  rw [List.all_eq_true] at d1 ⊢
  intro x hx
  exact d1 x hx
theorem seen_tab {T : List (Int × Row)} {ks : List Int} {D1 D2 E1 E2 : FD} {G G' : List (List Int)} (h1 : seenB (fT T) false ks D1 D2 G = true) (h2 : seenB (fT T) true ks E1 E2 G' = true) : TabSeen T ks := by
  obtain ⟨a, b⟩ := seenB_ix h1
  obtain ⟨c, e⟩ := seenB_ix h2
  refine ⟨?_, fun turk => ?_⟩
  · rw [List.all_eq_true]
    intro full hf
    rw [List.all_eq_true]
    intro turk ht
    have hb := List.all_eq_true.mp b full hf
    have he := List.all_eq_true.mp e full hf
    cases turk with
    | false => exact hb
    | true => exact he
  · cases turk with
    | false => exact a
    | true => exact c
theorem c3m {c : Int} (h : 0 ≤ c ∧ c < 3) : c ∈ ([0, 1, 2] : List Int) := by
  have : c = 0 ∨ c = 1 ∨ c = 2 := by omega
  rcases this with rfl | rfl | rfl <;> decide
theorem told_tab {c1 c2 c3 : Int} (h1 : 0 ≤ c1 ∧ c1 < 3) (h2 : 0 ≤ c2 ∧ c2 < 3) (h3 : 0 ≤ c3 ∧ c3 < 3) (o : Option Bool) : ∃ ks, TabOk (toldL c1 c2 c3 o) ks := by
  have m2 := c3m h2
  have m3 := c3m h3
  have h : c1 = 0 ∨ c1 = 1 ∨ c1 = 2 := by omega
  rcases o with _ | _ | _
  · rcases h with rfl | rfl | rfl
    · exact ⟨_, tab_ok7 (by decide) h2.1 h3.1 (seen_tab (seen0f0 _ m2 _ m3) (seen0t0 _ m2 _ m3))⟩
    · exact ⟨_, tab_ok7 (by decide) h2.1 h3.1 (seen_tab (seen0f1 _ m2 _ m3) (seen0t1 _ m2 _ m3))⟩
    · exact ⟨_, tab_ok7 (by decide) h2.1 h3.1 (seen_tab (seen0f2 _ m2 _ m3) (seen0t2 _ m2 _ m3))⟩
  · rcases h with rfl | rfl | rfl
    · exact ⟨_, tab_ok8 (by decide) h2.1 h3.1 (seen_tab (seen2f0 _ m2 _ m3) (seen2t0 _ m2 _ m3))⟩
    · exact ⟨_, tab_ok8 (by decide) h2.1 h3.1 (seen_tab (seen2f1 _ m2 _ m3) (seen2t1 _ m2 _ m3))⟩
    · exact ⟨_, tab_ok8 (by decide) h2.1 h3.1 (seen_tab (seen2f2 _ m2 _ m3) (seen2t2 _ m2 _ m3))⟩
  · rcases h with rfl | rfl | rfl
    · exact ⟨_, tab_ok8 (by decide) h2.1 h3.1 (seen_tab (seen1f0 _ m2 _ m3) (seen1t0 _ m2 _ m3))⟩
    · exact ⟨_, tab_ok8 (by decide) h2.1 h3.1 (seen_tab (seen1f1 _ m2 _ m3) (seen1t1 _ m2 _ m3))⟩
    · exact ⟨_, tab_ok8 (by decide) h2.1 h3.1 (seen_tab (seen1f2 _ m2 _ m3) (seen1t2 _ m2 _ m3))⟩
theorem tab_all (D : Deck) : ∃ ks, TabOk (toldS D).1 ks := by
  unfold toldS
  dsimp only
  have r1 := drawS_range (D := D) (many := 3) (by decide)
  have r2 := drawS_range (D := (drawS D 3).2) (many := 3) (by decide)
  have r3 := drawS_range (D := (drawS (drawS D 3).2 3).2) (many := 3) (by decide)
  split
  · dsimp only; exact told_tab r1 r2 r3 _
  · dsimp only; exact told_tab r1 r2 r3 _
theorem law_true {w : World} {sc : Addr} {ns : List Int} (hlen : ns.length ≤ 1000) : Fn w 16 (.ref 464) [.ref sc] [] (fun G => Has G sc (lstI ns)) (fun _ v _ _ => v = .bool true) :=
  law_spec hlen (fun D _ => tab_all D) find_right
end Nt
end
end
section
open PySem PySem.W PyProof.Rows PySem.Calls
set_option maxRecDepth 100000
set_option autoImplicit false
set_option linter.unusedVariables false
namespace Nt.Hd
noncomputable abbrev b0 : List Stmt := behindTheImports pp
noncomputable def S (i : Nat) : Stmt := (b0[i]?).getD (.Pass ⟨0, 0, 0, 0⟩)
noncomputable def M (i j : Nat) : Stmt := match S i with | .ClassDef _ _ _ b _ _ _ _ _ _ _ => (b[j]?).getD (.Pass ⟨0, 0, 0, 0⟩) | s => s
noncomputable def fD (s : Stmt) (q : Str) : FuncData := match s with | .FunctionDef n p b _ _ _ sc _ _ _ => { name := n, qualname := q, params := p, body := .stmts b, scope := sc, globals := 0, closure := [], defaults := .none, kwdefaults := .none } | _ => default
noncomputable def de (P : Params) (n : Str) (t : Tok) (v : Value) : DictEntry := ⟨PyData.keyHash P n, .str n t, v⟩
noncomputable def evens : List Obj → List Obj | [] => [] | [a] => [a] | a :: _ :: r => a :: evens r
noncomputable def mkT : Nat → List Obj → BT | 0, _ => .nil | _ + 1, [] => .nil | n + 1, o :: r => .node o (mkT n (evens r)) (mkT n (evens r.tail))
noncomputable def o0 (P : Params) : Obj := { cls := .type "tuple", data := .seq #[] }
noncomputable def o1 (P : Params) : Obj := { cls := .none, data := .fields #[] }
noncomputable def o2 (P : Params) : Obj := { cls := .type "code", data := .fields #[.str "<module>" 182, .str "<module>" 183, .str "/claim/cut.py" 184, .int 1 0, .int 0 0, .int 0 0, .int 0 0, .int 0 0, .ref 11, .bool false, .int 181 0, .ref 12, .none, .none, .none, .none, .int 185 0, .int 1 0, .str "/claim/cut.py" 186] }
noncomputable def o3 (P : Params) : Obj := { cls := .type "frame", slots := #[some (.ref 13), some (.ref 3), some (.ref 3), none, some (.str "__main__" 164), none, some (.ref 0)] }
noncomputable def o4 (P : Params) : Obj := { cls := .type "dict", data := .dict #[de P "__name__" 165 (.str "unicore.ranges" 209), de P "__doc__" 166 .none, de P "__package__" 167 .none, de P "__loader__" 168 (.builtin "__main__.__loader__#opaque"), de P "__spec__" 169 .none, de P "__annotations__" 170 (.ref 6), de P "__builtins__" 171 (.ref 4), de P "__file__" 173 (.str "/claim/cut.py" 172), de P "__cached__" 174 .none, de P "_wall" 193 (.ref 21), de P "MAX_CODE" 197 (.int 1114111 196), de P "place_by_half" 208 (.ref 28), de P "range_first_of" 217 (.ref 35), de P "range_bounds" 223 (.ref 40), de P "range_is_wanted" 232 (.ref 47), de P "range_merged" 247 (.ref 54)] 16 }
noncomputable def o5 (P : Params) : Obj := { cls := .none, data := .fields #[.int 1 0, .int 0 0, .ref 20, .int 6 0, .int 0 0, .ref 27, .int 17 0, .int 0 0, .ref 34, .int 19 0, .int 0 0, .ref 39, .int 27 0, .int 0 0, .ref 46, .int 35 0, .int 0 0, .ref 53] }
noncomputable def o6 (P : Params) : Obj := { cls := .type "tuple", data := .seq #[.str "k" 190] }
noncomputable def o7 (P : Params) : Obj := { cls := .none, data := .func { fD (S 0) "_wall" with globals := 0, defaults := .none, kwdefaults := .none } }
noncomputable def o8 (P : Params) : Obj := { cls := .type "code", data := .fields #[.str "_wall" 187, .str "_wall" 188, .str "/claim/cut.py" 189, .int 1 0, .int 1 0, .int 0 0, .int 0 0, .int 3 0, .ref 15, .bool true, .int 181 0, .ref 16, .none, .ref 17, .ref 18, .ref 19, .int 191 0, .int 1 0, .str "/claim/cut.py" 192] }
noncomputable def o9 (P : Params) : Obj := { cls := .type "function", data := .func { fD (S 0) "_wall" with globals := 3, defaults := .none, kwdefaults := .none, pyModule := .str "__main__" 164, code := .ref 20 } }
noncomputable def o10 (P : Params) : Obj := { cls := .type "tuple", data := .seq #[.str "firsts" 201, .str "number" 202, .str "low" 203, .str "high" 204, .str "middle" 205] }
noncomputable def o11 (P : Params) : Obj := { cls := .none, data := .func { fD (S 3) "place_by_half" with globals := 0, defaults := .none, kwdefaults := .none } }
noncomputable def o12 (P : Params) : Obj := { cls := .type "code", data := .fields #[.str "place_by_half" 198, .str "place_by_half" 199, .str "/claim/cut.py" 200, .int 6 0, .int 2 0, .int 0 0, .int 0 0, .int 3 0, .ref 22, .bool true, .int 181 0, .ref 23, .none, .ref 24, .ref 25, .ref 26, .int 206 0, .int 6 0, .str "/claim/cut.py" 207] }
noncomputable def o13 (P : Params) : Obj := { cls := .type "function", data := .func { fD (S 3) "place_by_half" with globals := 3, defaults := .none, kwdefaults := .none, pyModule := .str "unicore.base" 194, code := .ref 27 } }
noncomputable def o14 (P : Params) : Obj := { cls := .type "tuple", data := .seq #[.str "pair" 214] }
noncomputable def o15 (P : Params) : Obj := { cls := .none, data := .func { fD (S 5) "range_first_of" with globals := 0, defaults := .none, kwdefaults := .none } }
noncomputable def o16 (P : Params) : Obj := { cls := .type "code", data := .fields #[.str "range_first_of" 211, .str "range_first_of" 212, .str "/claim/cut.py" 213, .int 17 0, .int 1 0, .int 0 0, .int 0 0, .int 3 0, .ref 29, .bool true, .int 181 0, .ref 30, .none, .ref 31, .ref 32, .ref 33, .int 215 0, .int 17 0, .str "/claim/cut.py" 216] }
noncomputable def o17 (P : Params) : Obj := { cls := .type "function", data := .func { fD (S 5) "range_first_of" with globals := 3, defaults := .none, kwdefaults := .none, pyModule := .str "unicore.ranges" 209, code := .ref 34 } }
noncomputable def o18 (P : Params) : Obj := { cls := .none, data := .func { fD (S 6) "range_bounds" with globals := 0, defaults := .none, kwdefaults := .none } }
noncomputable def o19 (P : Params) : Obj := { cls := .type "code", data := .fields #[.str "range_bounds" 218, .str "range_bounds" 219, .str "/claim/cut.py" 220, .int 19 0, .int 1 0, .int 0 0, .int 0 0, .int 3 0, .ref 36, .bool true, .int 181 0, .ref 37, .none, .none, .none, .ref 38, .int 221 0, .int 19 0, .str "/claim/cut.py" 222] }
noncomputable def o20 (P : Params) : Obj := { cls := .type "function", data := .func { fD (S 6) "range_bounds" with globals := 3, defaults := .none, kwdefaults := .none, pyModule := .str "unicore.ranges" 209, code := .ref 39 } }
noncomputable def o21 (P : Params) : Obj := { cls := .type "tuple", data := .seq #[.str "way" 227, .str "is_near" 228, .str "is_far" 229] }
noncomputable def o22 (P : Params) : Obj := { cls := .none, data := .func { fD (S 7) "range_is_wanted" with globals := 0, defaults := .none, kwdefaults := .none } }
noncomputable def o23 (P : Params) : Obj := { cls := .type "code", data := .fields #[.str "range_is_wanted" 224, .str "range_is_wanted" 225, .str "/claim/cut.py" 226, .int 27 0, .int 3 0, .int 0 0, .int 0 0, .int 3 0, .ref 41, .bool true, .int 181 0, .ref 42, .none, .ref 43, .ref 44, .ref 45, .int 230 0, .int 27 0, .str "/claim/cut.py" 231] }
noncomputable def o24 (P : Params) : Obj := { cls := .type "function", data := .func { fD (S 7) "range_is_wanted" with globals := 3, defaults := .none, kwdefaults := .none, pyModule := .str "unicore.ranges" 209, code := .ref 46 } }
noncomputable def o25 (P : Params) : Obj := { cls := .type "tuple", data := .seq #[.str "near" 236, .str "far" 237, .str "way" 238, .str "found" 239, .str "at" 240, .str "beside" 241, .str "is_in" 242, .str "bound" 243, .str "is_next" 244] }
noncomputable def o26 (P : Params) : Obj := { cls := .none, data := .func { fD (S 8) "range_merged" with globals := 0, defaults := .none, kwdefaults := .none } }
noncomputable def o27 (P : Params) : Obj := { cls := .type "code", data := .fields #[.str "range_merged" 233, .str "range_merged" 234, .str "/claim/cut.py" 235, .int 35 0, .int 3 0, .int 0 0, .int 0 0, .int 3 0, .ref 48, .bool true, .int 181 0, .ref 49, .none, .ref 50, .ref 51, .ref 52, .int 245 0, .int 35 0, .str "/claim/cut.py" 246] }
noncomputable def o28 (P : Params) : Obj := { cls := .type "function", data := .func { fD (S 8) "range_merged" with globals := 3, defaults := .none, kwdefaults := .none, pyModule := .str "unicore.ranges" 209, code := .ref 53 } }
noncomputable def o29 (P : Params) : Obj := { cls := .type "dict", data := .dict #[de P "__name__" 165 (.str "unicore.ranges" 209), de P "__doc__" 166 .none, de P "__package__" 167 .none, de P "__loader__" 168 (.builtin "__main__.__loader__#opaque"), de P "__spec__" 169 .none, de P "__annotations__" 170 (.ref 6), de P "__builtins__" 171 (.ref 4), de P "__file__" 173 (.str "/claim/cut.py" 172), de P "__cached__" 174 .none, de P "_wall" 193 (.ref 21), de P "MAX_CODE" 197 (.int 1114111 196), de P "place_by_half" 208 (.ref 28), de P "range_first_of" 217 (.ref 35), de P "range_bounds" 223 (.ref 40), de P "range_is_wanted" 232 (.ref 47), de P "range_merged" 247 (.ref 54), de P "CodeSet" 372 (.ref 150)] 17 }
noncomputable def o30 (P : Params) : Obj := { cls := .none, data := .fields #[.int 1 0, .int 0 0, .ref 20, .int 6 0, .int 0 0, .ref 27, .int 17 0, .int 0 0, .ref 34, .int 19 0, .int 0 0, .ref 39, .int 27 0, .int 0 0, .ref 46, .int 35 0, .int 0 0, .ref 53, .int 51 0, .int 0 0, .ref 60] }
noncomputable def o31 (P : Params) : Obj := { cls := .type "builtin_function_or_method", data := .fields #[.builtin "type.__prepare__", .type "type"] }
noncomputable def o32 (P : Params) : Obj := { cls := .type "dict", data := .dict #[de P "__module__" 255 (.str "unicore.ranges" 209), de P "__qualname__" 257 (.str "CodeSet" 256), de P "__firstlineno__" 259 (.int 51 258), de P "__init__" 267 (.ref 69), de P "of" 286 (.ref 78), de P "has" 294 (.ref 86), de P "ranges" 300 (.ref 91), de P "size" 307 (.ref 98), de P "union" 315 (.ref 105), de P "both" 323 (.ref 112), de P "without" 331 (.ref 119), de P "opposite" 338 (.ref 126), de P "add" 347 (.ref 133), de P "equals" 355 (.ref 140), de P "first_at" 363 (.ref 147), de P "__static_attributes__" 365 (.ref 148)] 16 }
noncomputable def o33 (P : Params) : Obj := { cls := .none, data := .fields #[.int 53 0, .int 4 0, .ref 68, .int 57 0, .int 4 0, .ref 75, .int 60 0, .int 4 0, .ref 85, .int 63 0, .int 4 0, .ref 90, .int 66 0, .int 4 0, .ref 97, .int 69 0, .int 4 0, .ref 104, .int 72 0, .int 4 0, .ref 111, .int 75 0, .int 4 0, .ref 118, .int 78 0, .int 4 0, .ref 125, .int 81 0, .int 4 0, .ref 132, .int 84 0, .int 4 0, .ref 139, .int 87 0, .int 4 0, .ref 146] }
noncomputable def o34 (P : Params) : Obj := { cls := .type "code", data := .fields #[.str "CodeSet" 250, .str "CodeSet" 251, .str "/claim/cut.py" 252, .int 51 0, .int 0 0, .int 0 0, .int 0 0, .int 0 0, .ref 58, .bool false, .int 181 0, .ref 59, .none, .none, .none, .none, .int 253 0, .int 51 0, .str "/claim/cut.py" 254] }
noncomputable def o35 (P : Params) : Obj := { cls := .type "frame", slots := #[some (.ref 60), some (.ref 3), some (.ref 57), none, some (.str "unicore.ranges" 209), none, some (.ref 0)] }
noncomputable def o36 (P : Params) : Obj := { cls := .type "tuple", data := .seq #[.none] }
noncomputable def o37 (P : Params) : Obj := { cls := .type "tuple", data := .seq #[.str "self" 263, .str "bounds" 264] }
noncomputable def o38 (P : Params) : Obj := { cls := .none, data := .func { fD (M 9 0) "CodeSet.__init__" with globals := 0, defaults := .none, kwdefaults := .none } }
noncomputable def o39 (P : Params) : Obj := { cls := .type "code", data := .fields #[.str "__init__" 260, .str "CodeSet.__init__" 261, .str "/claim/cut.py" 262, .int 53 0, .int 2 0, .int 0 0, .int 0 0, .int 3 0, .ref 63, .bool true, .int 181 0, .ref 64, .none, .ref 65, .ref 66, .ref 67, .int 265 0, .int 53 0, .str "/claim/cut.py" 266] }
noncomputable def o40 (P : Params) : Obj := { cls := .type "function", data := .func { fD (M 9 0) "CodeSet.__init__" with globals := 3, defaults := .ref 62, kwdefaults := .none, pyModule := .str "unicore.ranges" 209, code := .ref 68 } }
noncomputable def o41 (P : Params) : Obj := { cls := .type "tuple", data := .seq #[.str "ranges" 271] }
noncomputable def o42 (P : Params) : Obj := { cls := .none, data := .func { fD (M 9 1) "CodeSet.of" with globals := 0, defaults := .none, kwdefaults := .none } }
noncomputable def o43 (P : Params) : Obj := { cls := .type "code", data := .fields #[.str "of" 268, .str "CodeSet.of" 269, .str "/claim/cut.py" 270, .int 56 0, .int 1 0, .int 0 0, .int 0 0, .int 3 0, .ref 70, .bool true, .int 181 0, .ref 71, .none, .ref 72, .ref 73, .ref 74, .int 272 0, .int 56 0, .str "/claim/cut.py" 273] }
noncomputable def o44 (P : Params) : Obj := { cls := .type "function", data := .func { fD (M 9 1) "CodeSet.of" with globals := 3, defaults := .none, kwdefaults := .none, pyModule := .str "unicore.ranges" 209, annotations := some 79, code := .ref 75 } }
noncomputable def o45 (P : Params) : Obj := { cls := .type "dict", data := .dict #[de P "__module__" 275 (.str "unicore.ranges" 209), de P "__name__" 278 (.str "of" 277), de P "__qualname__" 281 (.str "CodeSet.of" 280), de P "__doc__" 283 .none, de P "__annotations__" 285 (.ref 79)] 5 }
noncomputable def o46 (P : Params) : Obj := { cls := .type "staticmethod", dict := some 77, data := .fields #[.ref 76, .bool false] }
noncomputable def o47 (P : Params) : Obj := { cls := .type "dict", data := .dict #[] }
noncomputable def o48 (P : Params) : Obj := { cls := .type "tuple", data := .seq #[.str "self" 290, .str "code" 291] }
noncomputable def o49 (P : Params) : Obj := { cls := .none, data := .func { fD (M 9 2) "CodeSet.has" with globals := 0, defaults := .none, kwdefaults := .none } }
noncomputable def o50 (P : Params) : Obj := { cls := .type "code", data := .fields #[.str "has" 287, .str "CodeSet.has" 288, .str "/claim/cut.py" 289, .int 60 0, .int 2 0, .int 0 0, .int 0 0, .int 3 0, .ref 80, .bool true, .int 181 0, .ref 81, .none, .ref 82, .ref 83, .ref 84, .int 292 0, .int 60 0, .str "/claim/cut.py" 293] }
noncomputable def o51 (P : Params) : Obj := { cls := .type "function", data := .func { fD (M 9 2) "CodeSet.has" with globals := 3, defaults := .none, kwdefaults := .none, pyModule := .str "unicore.ranges" 209, code := .ref 85 } }
noncomputable def o52 (P : Params) : Obj := { cls := .none, data := .func { fD (M 9 3) "CodeSet.ranges" with globals := 0, defaults := .none, kwdefaults := .none } }
noncomputable def o53 (P : Params) : Obj := { cls := .type "code", data := .fields #[.str "ranges" 295, .str "CodeSet.ranges" 296, .str "/claim/cut.py" 297, .int 63 0, .int 1 0, .int 0 0, .int 0 0, .int 3 0, .ref 87, .bool true, .int 181 0, .ref 88, .none, .none, .none, .ref 89, .int 298 0, .int 63 0, .str "/claim/cut.py" 299] }
noncomputable def o54 (P : Params) : Obj := { cls := .type "function", data := .func { fD (M 9 3) "CodeSet.ranges" with globals := 3, defaults := .none, kwdefaults := .none, pyModule := .str "unicore.ranges" 209, code := .ref 90 } }
noncomputable def o55 (P : Params) : Obj := { cls := .type "tuple", data := .seq #[.str "self" 304] }
noncomputable def o56 (P : Params) : Obj := { cls := .none, data := .func { fD (M 9 4) "CodeSet.size" with globals := 0, defaults := .none, kwdefaults := .none } }
noncomputable def o57 (P : Params) : Obj := { cls := .type "code", data := .fields #[.str "size" 301, .str "CodeSet.size" 302, .str "/claim/cut.py" 303, .int 66 0, .int 1 0, .int 0 0, .int 0 0, .int 3 0, .ref 92, .bool true, .int 181 0, .ref 93, .none, .ref 94, .ref 95, .ref 96, .int 305 0, .int 66 0, .str "/claim/cut.py" 306] }
noncomputable def o58 (P : Params) : Obj := { cls := .type "function", data := .func { fD (M 9 4) "CodeSet.size" with globals := 3, defaults := .none, kwdefaults := .none, pyModule := .str "unicore.ranges" 209, code := .ref 97 } }
noncomputable def o59 (P : Params) : Obj := { cls := .type "tuple", data := .seq #[.str "self" 311, .str "other" 312] }
noncomputable def o60 (P : Params) : Obj := { cls := .none, data := .func { fD (M 9 5) "CodeSet.union" with globals := 0, defaults := .none, kwdefaults := .none } }
noncomputable def o61 (P : Params) : Obj := { cls := .type "code", data := .fields #[.str "union" 308, .str "CodeSet.union" 309, .str "/claim/cut.py" 310, .int 69 0, .int 2 0, .int 0 0, .int 0 0, .int 3 0, .ref 99, .bool true, .int 181 0, .ref 100, .none, .ref 101, .ref 102, .ref 103, .int 313 0, .int 69 0, .str "/claim/cut.py" 314] }
noncomputable def o62 (P : Params) : Obj := { cls := .type "function", data := .func { fD (M 9 5) "CodeSet.union" with globals := 3, defaults := .none, kwdefaults := .none, pyModule := .str "unicore.ranges" 209, code := .ref 104 } }
noncomputable def o63 (P : Params) : Obj := { cls := .type "tuple", data := .seq #[.str "self" 319, .str "other" 320] }
noncomputable def o64 (P : Params) : Obj := { cls := .none, data := .func { fD (M 9 6) "CodeSet.both" with globals := 0, defaults := .none, kwdefaults := .none } }
noncomputable def o65 (P : Params) : Obj := { cls := .type "code", data := .fields #[.str "both" 316, .str "CodeSet.both" 317, .str "/claim/cut.py" 318, .int 72 0, .int 2 0, .int 0 0, .int 0 0, .int 3 0, .ref 106, .bool true, .int 181 0, .ref 107, .none, .ref 108, .ref 109, .ref 110, .int 321 0, .int 72 0, .str "/claim/cut.py" 322] }
noncomputable def o66 (P : Params) : Obj := { cls := .type "function", data := .func { fD (M 9 6) "CodeSet.both" with globals := 3, defaults := .none, kwdefaults := .none, pyModule := .str "unicore.ranges" 209, code := .ref 111 } }
noncomputable def o67 (P : Params) : Obj := { cls := .type "tuple", data := .seq #[.str "self" 327, .str "other" 328] }
noncomputable def o68 (P : Params) : Obj := { cls := .none, data := .func { fD (M 9 7) "CodeSet.without" with globals := 0, defaults := .none, kwdefaults := .none } }
noncomputable def o69 (P : Params) : Obj := { cls := .type "code", data := .fields #[.str "without" 324, .str "CodeSet.without" 325, .str "/claim/cut.py" 326, .int 75 0, .int 2 0, .int 0 0, .int 0 0, .int 3 0, .ref 113, .bool true, .int 181 0, .ref 114, .none, .ref 115, .ref 116, .ref 117, .int 329 0, .int 75 0, .str "/claim/cut.py" 330] }
noncomputable def o70 (P : Params) : Obj := { cls := .type "function", data := .func { fD (M 9 7) "CodeSet.without" with globals := 3, defaults := .none, kwdefaults := .none, pyModule := .str "unicore.ranges" 209, code := .ref 118 } }
noncomputable def o71 (P : Params) : Obj := { cls := .type "tuple", data := .seq #[.str "self" 335] }
noncomputable def o72 (P : Params) : Obj := { cls := .none, data := .func { fD (M 9 8) "CodeSet.opposite" with globals := 0, defaults := .none, kwdefaults := .none } }
noncomputable def o73 (P : Params) : Obj := { cls := .type "code", data := .fields #[.str "opposite" 332, .str "CodeSet.opposite" 333, .str "/claim/cut.py" 334, .int 78 0, .int 1 0, .int 0 0, .int 0 0, .int 3 0, .ref 120, .bool true, .int 181 0, .ref 121, .none, .ref 122, .ref 123, .ref 124, .int 336 0, .int 78 0, .str "/claim/cut.py" 337] }
noncomputable def o74 (P : Params) : Obj := { cls := .type "function", data := .func { fD (M 9 8) "CodeSet.opposite" with globals := 3, defaults := .none, kwdefaults := .none, pyModule := .str "unicore.ranges" 209, code := .ref 125 } }
noncomputable def o75 (P : Params) : Obj := { cls := .type "tuple", data := .seq #[.str "self" 342, .str "first" 343, .str "last" 344] }
noncomputable def o76 (P : Params) : Obj := { cls := .none, data := .func { fD (M 9 9) "CodeSet.add" with globals := 0, defaults := .none, kwdefaults := .none } }
noncomputable def o77 (P : Params) : Obj := { cls := .type "code", data := .fields #[.str "add" 339, .str "CodeSet.add" 340, .str "/claim/cut.py" 341, .int 81 0, .int 3 0, .int 0 0, .int 0 0, .int 3 0, .ref 127, .bool true, .int 181 0, .ref 128, .none, .ref 129, .ref 130, .ref 131, .int 345 0, .int 81 0, .str "/claim/cut.py" 346] }
noncomputable def o78 (P : Params) : Obj := { cls := .type "function", data := .func { fD (M 9 9) "CodeSet.add" with globals := 3, defaults := .none, kwdefaults := .none, pyModule := .str "unicore.ranges" 209, code := .ref 132 } }
noncomputable def o79 (P : Params) : Obj := { cls := .type "tuple", data := .seq #[.str "self" 351, .str "other" 352] }
noncomputable def o80 (P : Params) : Obj := { cls := .none, data := .func { fD (M 9 10) "CodeSet.equals" with globals := 0, defaults := .none, kwdefaults := .none } }
noncomputable def o81 (P : Params) : Obj := { cls := .type "code", data := .fields #[.str "equals" 348, .str "CodeSet.equals" 349, .str "/claim/cut.py" 350, .int 84 0, .int 2 0, .int 0 0, .int 0 0, .int 3 0, .ref 134, .bool true, .int 181 0, .ref 135, .none, .ref 136, .ref 137, .ref 138, .int 353 0, .int 84 0, .str "/claim/cut.py" 354] }
noncomputable def o82 (P : Params) : Obj := { cls := .type "function", data := .func { fD (M 9 10) "CodeSet.equals" with globals := 3, defaults := .none, kwdefaults := .none, pyModule := .str "unicore.ranges" 209, code := .ref 139 } }
noncomputable def o83 (P : Params) : Obj := { cls := .type "tuple", data := .seq #[.str "self" 359, .str "code" 360] }
noncomputable def o84 (P : Params) : Obj := { cls := .none, data := .func { fD (M 9 11) "CodeSet.first_at" with globals := 0, defaults := .none, kwdefaults := .none } }
noncomputable def o85 (P : Params) : Obj := { cls := .type "code", data := .fields #[.str "first_at" 356, .str "CodeSet.first_at" 357, .str "/claim/cut.py" 358, .int 87 0, .int 2 0, .int 0 0, .int 0 0, .int 3 0, .ref 141, .bool true, .int 181 0, .ref 142, .none, .ref 143, .ref 144, .ref 145, .int 361 0, .int 87 0, .str "/claim/cut.py" 362] }
noncomputable def o86 (P : Params) : Obj := { cls := .type "function", data := .func { fD (M 9 11) "CodeSet.first_at" with globals := 3, defaults := .none, kwdefaults := .none, pyModule := .str "unicore.ranges" 209, code := .ref 146 } }
noncomputable def o87 (P : Params) : Obj := { cls := .type "tuple", data := .seq #[.str "bounds" 364] }
noncomputable def o88 (P : Params) : Obj := { cls := .type "dict", data := .dict #[de P "__module__" 255 (.str "unicore.ranges" 209), de P "__firstlineno__" 259 (.int 51 258), de P "__init__" 267 (.ref 69), de P "of" 286 (.ref 78), de P "has" 294 (.ref 86), de P "ranges" 300 (.ref 91), de P "size" 307 (.ref 98), de P "union" 315 (.ref 105), de P "both" 323 (.ref 112), de P "without" 331 (.ref 119), de P "opposite" 338 (.ref 126), de P "add" 347 (.ref 133), de P "equals" 355 (.ref 140), de P "first_at" 363 (.ref 147), de P "__static_attributes__" 365 (.ref 148), de P "__dict__" 367 (.ref 151), de P "__weakref__" 369 (.ref 152), de P "__doc__" 370 .none] 4 }
noncomputable def o89 (P : Params) : Obj := { cls := .type "type", data := .cls { name := "CodeSet", bases := [.type "object"], mro := [.ref 150, .type "object"], ns := 149, qualname := "CodeSet" }, slots := #[none, none, some (.str "CodeSet" 248), some (.str "CodeSet" 256), some (.builtin "object.__new__"), some (.bool true)] }
noncomputable def o90 (P : Params) : Obj := { cls := .type "getset_descriptor", data := .fields #[.str "__dict__" 366, .ref 150, .builtin "function.__dict__", .builtin "function.__dict__#set"] }
noncomputable def o91 (P : Params) : Obj := { cls := .type "getset_descriptor", data := .fields #[.str "__weakref__" 368, .ref 150, .builtin "ExceptionGroup.__weakref__", .none] }
noncomputable def o92 (P : Params) : Obj := { cls := .type "super", data := .fields #[.ref 150, .ref 150, .ref 150] }
noncomputable def o93 (P : Params) : Obj := { cls := .type "builtin_function_or_method", data := .fields #[.builtin "object.__init_subclass__", .ref 150] }
noncomputable def o94 (P : Params) : Obj := { cls := .type "dict", data := .dict #[de P "__name__" 165 (.str "unicore.ranges" 209), de P "__doc__" 166 .none, de P "__package__" 167 .none, de P "__loader__" 168 (.builtin "__main__.__loader__#opaque"), de P "__spec__" 169 .none, de P "__annotations__" 170 (.ref 6), de P "__builtins__" 171 (.ref 4), de P "__file__" 173 (.str "/claim/cut.py" 172), de P "__cached__" 174 .none, de P "_wall" 193 (.ref 21), de P "MAX_CODE" 197 (.int 1114111 196), de P "place_by_half" 208 (.ref 28), de P "range_first_of" 217 (.ref 35), de P "range_bounds" 223 (.ref 40), de P "range_is_wanted" 232 (.ref 47), de P "range_merged" 247 (.ref 54), de P "CodeSet" 372 (.ref 150), de P "range_set_of" 378 (.ref 159), de P "range_codes" 388 (.ref 166), de P "range_are_like" 396 (.ref 173), de P "RangeMap" 464 (.ref 216)] 21 }
noncomputable def o95 (P : Params) : Obj := { cls := .none, data := .fields #[.int 1 0, .int 0 0, .ref 20, .int 6 0, .int 0 0, .ref 27, .int 17 0, .int 0 0, .ref 34, .int 19 0, .int 0 0, .ref 39, .int 27 0, .int 0 0, .ref 46, .int 35 0, .int 0 0, .ref 53, .int 51 0, .int 0 0, .ref 60, .int 89 0, .int 0 0, .ref 158, .int 91 0, .int 0 0, .ref 165, .int 96 0, .int 0 0, .ref 172, .int 98 0, .int 0 0, .ref 179] }
noncomputable def o96 (P : Params) : Obj := { cls := .none, data := .func { fD (S 10) "range_set_of" with globals := 0, defaults := .none, kwdefaults := .none } }
noncomputable def o97 (P : Params) : Obj := { cls := .type "code", data := .fields #[.str "range_set_of" 373, .str "range_set_of" 374, .str "/claim/cut.py" 375, .int 89 0, .int 1 0, .int 0 0, .int 0 0, .int 3 0, .ref 155, .bool true, .int 181 0, .ref 156, .none, .none, .none, .ref 157, .int 376 0, .int 89 0, .str "/claim/cut.py" 377] }
noncomputable def o98 (P : Params) : Obj := { cls := .type "function", data := .func { fD (S 10) "range_set_of" with globals := 3, defaults := .none, kwdefaults := .none, pyModule := .str "unicore.ranges" 209, code := .ref 158 } }
noncomputable def o99 (P : Params) : Obj := { cls := .type "tuple", data := .seq #[.str "code_set" 382, .str "found" 383, .str "first" 384, .str "last" 385] }
noncomputable def o100 (P : Params) : Obj := { cls := .none, data := .func { fD (S 11) "range_codes" with globals := 0, defaults := .none, kwdefaults := .none } }
noncomputable def o101 (P : Params) : Obj := { cls := .type "code", data := .fields #[.str "range_codes" 379, .str "range_codes" 380, .str "/claim/cut.py" 381, .int 91 0, .int 1 0, .int 0 0, .int 0 0, .int 3 0, .ref 160, .bool true, .int 181 0, .ref 161, .none, .ref 162, .ref 163, .ref 164, .int 386 0, .int 91 0, .str "/claim/cut.py" 387] }
noncomputable def o102 (P : Params) : Obj := { cls := .type "function", data := .func { fD (S 11) "range_codes" with globals := 3, defaults := .none, kwdefaults := .none, pyModule := .str "unicore.ranges" 209, code := .ref 165 } }
noncomputable def o103 (P : Params) : Obj := { cls := .type "tuple", data := .seq #[.str "one" 392, .str "other" 393] }
noncomputable def o104 (P : Params) : Obj := { cls := .none, data := .func { fD (S 12) "range_are_like" with globals := 0, defaults := .none, kwdefaults := .none } }
noncomputable def o105 (P : Params) : Obj := { cls := .type "code", data := .fields #[.str "range_are_like" 389, .str "range_are_like" 390, .str "/claim/cut.py" 391, .int 96 0, .int 2 0, .int 0 0, .int 0 0, .int 3 0, .ref 167, .bool true, .int 181 0, .ref 168, .none, .ref 169, .ref 170, .ref 171, .int 394 0, .int 96 0, .str "/claim/cut.py" 395] }
noncomputable def o106 (P : Params) : Obj := { cls := .type "function", data := .func { fD (S 12) "range_are_like" with globals := 3, defaults := .none, kwdefaults := .none, pyModule := .str "unicore.ranges" 209, code := .ref 172 } }
noncomputable def o107 (P : Params) : Obj := { cls := .type "dict", data := .dict #[de P "__module__" 404 (.str "unicore.ranges" 209), de P "__qualname__" 406 (.str "RangeMap" 405), de P "__firstlineno__" 408 (.int 98 407), de P "__init__" 416 (.ref 187), de P "get" 424 (.ref 194), de P "put" 439 (.ref 201), de P "ranges" 445 (.ref 206), de P "set_of" 453 (.ref 213), de P "__static_attributes__" 457 (.ref 214)] 9 }
noncomputable def o108 (P : Params) : Obj := { cls := .none, data := .fields #[.int 100 0, .int 4 0, .ref 186, .int 105 0, .int 4 0, .ref 193, .int 108 0, .int 4 0, .ref 200, .int 123 0, .int 4 0, .ref 205, .int 126 0, .int 4 0, .ref 212] }
noncomputable def o109 (P : Params) : Obj := { cls := .type "code", data := .fields #[.str "RangeMap" 399, .str "RangeMap" 400, .str "/claim/cut.py" 401, .int 98 0, .int 0 0, .int 0 0, .int 0 0, .int 0 0, .ref 177, .bool false, .int 181 0, .ref 178, .none, .none, .none, .none, .int 402 0, .int 98 0, .str "/claim/cut.py" 403] }
noncomputable def o110 (P : Params) : Obj := { cls := .type "frame", slots := #[some (.ref 179), some (.ref 3), some (.ref 176), none, some (.str "unicore.ranges" 209), none, some (.ref 0)] }
noncomputable def o111 (P : Params) : Obj := { cls := .type "tuple", data := .seq #[.str "self" 412, .str "default" 413] }
noncomputable def o112 (P : Params) : Obj := { cls := .none, data := .func { fD (M 13 0) "RangeMap.__init__" with globals := 0, defaults := .none, kwdefaults := .none } }
noncomputable def o113 (P : Params) : Obj := { cls := .type "code", data := .fields #[.str "__init__" 409, .str "RangeMap.__init__" 410, .str "/claim/cut.py" 411, .int 100 0, .int 2 0, .int 0 0, .int 0 0, .int 3 0, .ref 181, .bool true, .int 181 0, .ref 182, .none, .ref 183, .ref 184, .ref 185, .int 414 0, .int 100 0, .str "/claim/cut.py" 415] }
noncomputable def o114 (P : Params) : Obj := { cls := .type "function", data := .func { fD (M 13 0) "RangeMap.__init__" with globals := 3, defaults := .none, kwdefaults := .none, pyModule := .str "unicore.ranges" 209, code := .ref 186 } }
noncomputable def o115 (P : Params) : Obj := { cls := .type "tuple", data := .seq #[.str "self" 420, .str "code" 421] }
noncomputable def o116 (P : Params) : Obj := { cls := .none, data := .func { fD (M 13 1) "RangeMap.get" with globals := 0, defaults := .none, kwdefaults := .none } }
noncomputable def o117 (P : Params) : Obj := { cls := .type "code", data := .fields #[.str "get" 417, .str "RangeMap.get" 418, .str "/claim/cut.py" 419, .int 105 0, .int 2 0, .int 0 0, .int 0 0, .int 3 0, .ref 188, .bool true, .int 181 0, .ref 189, .none, .ref 190, .ref 191, .ref 192, .int 422 0, .int 105 0, .str "/claim/cut.py" 423] }
noncomputable def o118 (P : Params) : Obj := { cls := .type "function", data := .func { fD (M 13 1) "RangeMap.get" with globals := 3, defaults := .none, kwdefaults := .none, pyModule := .str "unicore.ranges" 209, code := .ref 193 } }
noncomputable def o119 (P : Params) : Obj := { cls := .type "tuple", data := .seq #[.str "self" 428, .str "first" 429, .str "last" 430, .str "value" 431, .str "low" 432, .str "high" 433, .str "behind" 434, .str "starts" 435, .str "values" 436] }
noncomputable def o120 (P : Params) : Obj := { cls := .none, data := .func { fD (M 13 2) "RangeMap.put" with globals := 0, defaults := .none, kwdefaults := .none } }
noncomputable def o121 (P : Params) : Obj := { cls := .type "code", data := .fields #[.str "put" 425, .str "RangeMap.put" 426, .str "/claim/cut.py" 427, .int 108 0, .int 4 0, .int 0 0, .int 0 0, .int 3 0, .ref 195, .bool true, .int 181 0, .ref 196, .none, .ref 197, .ref 198, .ref 199, .int 437 0, .int 108 0, .str "/claim/cut.py" 438] }
noncomputable def o122 (P : Params) : Obj := { cls := .type "function", data := .func { fD (M 13 2) "RangeMap.put" with globals := 3, defaults := .none, kwdefaults := .none, pyModule := .str "unicore.ranges" 209, code := .ref 200 } }
noncomputable def o123 (P : Params) : Obj := { cls := .none, data := .func { fD (M 13 3) "RangeMap.ranges" with globals := 0, defaults := .none, kwdefaults := .none } }
noncomputable def o124 (P : Params) : Obj := { cls := .type "code", data := .fields #[.str "ranges" 440, .str "RangeMap.ranges" 441, .str "/claim/cut.py" 442, .int 123 0, .int 1 0, .int 0 0, .int 0 0, .int 3 0, .ref 202, .bool true, .int 181 0, .ref 203, .none, .none, .none, .ref 204, .int 443 0, .int 123 0, .str "/claim/cut.py" 444] }
noncomputable def o125 (P : Params) : Obj := { cls := .type "function", data := .func { fD (M 13 3) "RangeMap.ranges" with globals := 3, defaults := .none, kwdefaults := .none, pyModule := .str "unicore.ranges" 209, code := .ref 205 } }
noncomputable def o126 (P : Params) : Obj := { cls := .type "tuple", data := .seq #[.str "self" 449, .str "value" 450] }
noncomputable def o127 (P : Params) : Obj := { cls := .none, data := .func { fD (M 13 4) "RangeMap.set_of" with globals := 0, defaults := .none, kwdefaults := .none } }
noncomputable def o128 (P : Params) : Obj := { cls := .type "code", data := .fields #[.str "set_of" 446, .str "RangeMap.set_of" 447, .str "/claim/cut.py" 448, .int 126 0, .int 2 0, .int 0 0, .int 0 0, .int 3 0, .ref 207, .bool true, .int 181 0, .ref 208, .none, .ref 209, .ref 210, .ref 211, .int 451 0, .int 126 0, .str "/claim/cut.py" 452] }
noncomputable def o129 (P : Params) : Obj := { cls := .type "function", data := .func { fD (M 13 4) "RangeMap.set_of" with globals := 3, defaults := .none, kwdefaults := .none, pyModule := .str "unicore.ranges" 209, code := .ref 212 } }
noncomputable def o130 (P : Params) : Obj := { cls := .type "tuple", data := .seq #[.str "default" 454, .str "starts" 455, .str "values" 456] }
noncomputable def o131 (P : Params) : Obj := { cls := .type "dict", data := .dict #[de P "__module__" 404 (.str "unicore.ranges" 209), de P "__firstlineno__" 408 (.int 98 407), de P "__init__" 416 (.ref 187), de P "get" 424 (.ref 194), de P "put" 439 (.ref 201), de P "ranges" 445 (.ref 206), de P "set_of" 453 (.ref 213), de P "__static_attributes__" 457 (.ref 214), de P "__dict__" 459 (.ref 217), de P "__weakref__" 461 (.ref 218), de P "__doc__" 462 .none] 4 }
noncomputable def o132 (P : Params) : Obj := { cls := .type "type", data := .cls { name := "RangeMap", bases := [.type "object"], mro := [.ref 216, .type "object"], ns := 215, qualname := "RangeMap" }, slots := #[none, none, some (.str "RangeMap" 397), some (.str "RangeMap" 405), some (.builtin "object.__new__"), some (.bool true)] }
noncomputable def o133 (P : Params) : Obj := { cls := .type "getset_descriptor", data := .fields #[.str "__dict__" 458, .ref 216, .builtin "function.__dict__", .builtin "function.__dict__#set"] }
noncomputable def o134 (P : Params) : Obj := { cls := .type "getset_descriptor", data := .fields #[.str "__weakref__" 460, .ref 216, .builtin "ExceptionGroup.__weakref__", .none] }
noncomputable def o135 (P : Params) : Obj := { cls := .type "super", data := .fields #[.ref 216, .ref 216, .ref 216] }
noncomputable def o136 (P : Params) : Obj := { cls := .type "builtin_function_or_method", data := .fields #[.builtin "object.__init_subclass__", .ref 216] }
noncomputable def o137 (P : Params) : Obj := { cls := .type "dict", data := .dict #[de P "__name__" 165 (.str "unicore.folding" 477), de P "__doc__" 166 .none, de P "__package__" 167 .none, de P "__loader__" 168 (.builtin "__main__.__loader__#opaque"), de P "__spec__" 169 .none, de P "__annotations__" 170 (.ref 6), de P "__builtins__" 171 (.ref 4), de P "__file__" 173 (.str "/claim/cut.py" 172), de P "__cached__" 174 .none, de P "_wall" 193 (.ref 21), de P "MAX_CODE" 197 (.int 1114111 196), de P "place_by_half" 208 (.ref 28), de P "range_first_of" 217 (.ref 35), de P "range_bounds" 223 (.ref 40), de P "range_is_wanted" 232 (.ref 47), de P "range_merged" 247 (.ref 54), de P "CodeSet" 372 (.ref 150), de P "range_set_of" 378 (.ref 159), de P "range_codes" 388 (.ref 166), de P "range_are_like" 396 (.ref 173), de P "RangeMap" 464 (.ref 216), de P "range_rows" 476 (.ref 227), de P "fold_of" 489 (.ref 234), de P "fold_statuses" 498 (.ref 241), de P "fold_by" 509 (.ref 248), de P "fold_simple" 518 (.ref 256), de P "fold_full" 527 (.ref 264), de P "caseless_default" 536 (.ref 272), de P "matches_default" 546 (.ref 280)] 29 }
noncomputable def o138 (P : Params) : Obj := { cls := .none, data := .fields #[.int 1 0, .int 0 0, .ref 20, .int 6 0, .int 0 0, .ref 27, .int 17 0, .int 0 0, .ref 34, .int 19 0, .int 0 0, .ref 39, .int 27 0, .int 0 0, .ref 46, .int 35 0, .int 0 0, .ref 53, .int 51 0, .int 0 0, .ref 60, .int 89 0, .int 0 0, .ref 158, .int 91 0, .int 0 0, .ref 165, .int 96 0, .int 0 0, .ref 172, .int 98 0, .int 0 0, .ref 179, .int 128 0, .int 0 0, .ref 226, .int 135 0, .int 0 0, .ref 233, .int 142 0, .int 0 0, .ref 240, .int 145 0, .int 0 0, .ref 247, .int 150 0, .int 0 0, .ref 255, .int 152 0, .int 0 0, .ref 263, .int 154 0, .int 0 0, .ref 271, .int 156 0, .int 0 0, .ref 279] }
noncomputable def o139 (P : Params) : Obj := { cls := .type "tuple", data := .seq #[.str "range_map" 468, .str "starts" 469, .str "found" 470, .str "at" 471, .str "value" 472, .str "last" 473] }
noncomputable def o140 (P : Params) : Obj := { cls := .none, data := .func { fD (S 14) "range_rows" with globals := 0, defaults := .none, kwdefaults := .none } }
noncomputable def o141 (P : Params) : Obj := { cls := .type "code", data := .fields #[.str "range_rows" 465, .str "range_rows" 466, .str "/claim/cut.py" 467, .int 128 0, .int 1 0, .int 0 0, .int 0 0, .int 3 0, .ref 221, .bool true, .int 181 0, .ref 222, .none, .ref 223, .ref 224, .ref 225, .int 474 0, .int 128 0, .str "/claim/cut.py" 475] }
noncomputable def o142 (P : Params) : Obj := { cls := .type "function", data := .func { fD (S 14) "range_rows" with globals := 3, defaults := .none, kwdefaults := .none, pyModule := .str "unicore.ranges" 209, code := .ref 226 } }
noncomputable def o143 (P : Params) : Obj := { cls := .type "tuple", data := .seq #[.str "code" 482, .str "data" 483, .str "statuses" 484, .str "known" 485, .str "status" 486] }
noncomputable def o144 (P : Params) : Obj := { cls := .none, data := .func { fD (S 16) "fold_of" with globals := 0, defaults := .none, kwdefaults := .none } }
noncomputable def o145 (P : Params) : Obj := { cls := .type "code", data := .fields #[.str "fold_of" 479, .str "fold_of" 480, .str "/claim/cut.py" 481, .int 135 0, .int 3 0, .int 0 0, .int 0 0, .int 3 0, .ref 228, .bool true, .int 181 0, .ref 229, .none, .ref 230, .ref 231, .ref 232, .int 487 0, .int 135 0, .str "/claim/cut.py" 488] }
noncomputable def o146 (P : Params) : Obj := { cls := .type "function", data := .func { fD (S 16) "fold_of" with globals := 3, defaults := .none, kwdefaults := .none, pyModule := .str "unicore.folding" 477, code := .ref 233 } }
noncomputable def o147 (P : Params) : Obj := { cls := .type "tuple", data := .seq #[.str "is_full" 493, .str "is_turkic" 494, .str "found" 495] }
noncomputable def o148 (P : Params) : Obj := { cls := .none, data := .func { fD (S 17) "fold_statuses" with globals := 0, defaults := .none, kwdefaults := .none } }
noncomputable def o149 (P : Params) : Obj := { cls := .type "code", data := .fields #[.str "fold_statuses" 490, .str "fold_statuses" 491, .str "/claim/cut.py" 492, .int 142 0, .int 2 0, .int 0 0, .int 0 0, .int 3 0, .ref 235, .bool true, .int 181 0, .ref 236, .none, .ref 237, .ref 238, .ref 239, .int 496 0, .int 142 0, .str "/claim/cut.py" 497] }
noncomputable def o150 (P : Params) : Obj := { cls := .type "function", data := .func { fD (S 17) "fold_statuses" with globals := 3, defaults := .none, kwdefaults := .none, pyModule := .str "unicore.folding" 477, code := .ref 240 } }
noncomputable def o151 (P : Params) : Obj := { cls := .type "tuple", data := .seq #[.str "text" 502, .str "data" 503, .str "statuses" 504, .str "found" 505, .str "code" 506] }
noncomputable def o152 (P : Params) : Obj := { cls := .none, data := .func { fD (S 18) "fold_by" with globals := 0, defaults := .none, kwdefaults := .none } }
noncomputable def o153 (P : Params) : Obj := { cls := .type "code", data := .fields #[.str "fold_by" 499, .str "fold_by" 500, .str "/claim/cut.py" 501, .int 145 0, .int 3 0, .int 0 0, .int 0 0, .int 3 0, .ref 242, .bool true, .int 181 0, .ref 243, .none, .ref 244, .ref 245, .ref 246, .int 507 0, .int 145 0, .str "/claim/cut.py" 508] }
noncomputable def o154 (P : Params) : Obj := { cls := .type "function", data := .func { fD (S 18) "fold_by" with globals := 3, defaults := .none, kwdefaults := .none, pyModule := .str "unicore.folding" 477, code := .ref 247 } }
noncomputable def o155 (P : Params) : Obj := { cls := .type "tuple", data := .seq #[.bool false] }
noncomputable def o156 (P : Params) : Obj := { cls := .type "tuple", data := .seq #[.str "text" 513, .str "data" 514, .str "is_turkic" 515] }
noncomputable def o157 (P : Params) : Obj := { cls := .none, data := .func { fD (S 19) "fold_simple" with globals := 0, defaults := .none, kwdefaults := .none } }
noncomputable def o158 (P : Params) : Obj := { cls := .type "code", data := .fields #[.str "fold_simple" 510, .str "fold_simple" 511, .str "/claim/cut.py" 512, .int 150 0, .int 3 0, .int 0 0, .int 0 0, .int 3 0, .ref 250, .bool true, .int 181 0, .ref 251, .none, .ref 252, .ref 253, .ref 254, .int 516 0, .int 150 0, .str "/claim/cut.py" 517] }
noncomputable def o159 (P : Params) : Obj := { cls := .type "function", data := .func { fD (S 19) "fold_simple" with globals := 3, defaults := .ref 249, kwdefaults := .none, pyModule := .str "unicore.folding" 477, code := .ref 255 } }
noncomputable def o160 (P : Params) : Obj := { cls := .type "tuple", data := .seq #[.str "text" 522, .str "data" 523, .str "is_turkic" 524] }
noncomputable def o161 (P : Params) : Obj := { cls := .none, data := .func { fD (S 20) "fold_full" with globals := 0, defaults := .none, kwdefaults := .none } }
noncomputable def o162 (P : Params) : Obj := { cls := .type "code", data := .fields #[.str "fold_full" 519, .str "fold_full" 520, .str "/claim/cut.py" 521, .int 152 0, .int 3 0, .int 0 0, .int 0 0, .int 3 0, .ref 258, .bool true, .int 181 0, .ref 259, .none, .ref 260, .ref 261, .ref 262, .int 525 0, .int 152 0, .str "/claim/cut.py" 526] }
noncomputable def o163 (P : Params) : Obj := { cls := .type "function", data := .func { fD (S 20) "fold_full" with globals := 3, defaults := .ref 257, kwdefaults := .none, pyModule := .str "unicore.folding" 477, code := .ref 263 } }
noncomputable def o164 (P : Params) : Obj := { cls := .type "tuple", data := .seq #[.str "text" 531, .str "data" 532, .str "is_turkic" 533] }
noncomputable def o165 (P : Params) : Obj := { cls := .none, data := .func { fD (S 21) "caseless_default" with globals := 0, defaults := .none, kwdefaults := .none } }
noncomputable def o166 (P : Params) : Obj := { cls := .type "code", data := .fields #[.str "caseless_default" 528, .str "caseless_default" 529, .str "/claim/cut.py" 530, .int 154 0, .int 3 0, .int 0 0, .int 0 0, .int 3 0, .ref 266, .bool true, .int 181 0, .ref 267, .none, .ref 268, .ref 269, .ref 270, .int 534 0, .int 154 0, .str "/claim/cut.py" 535] }
noncomputable def o167 (P : Params) : Obj := { cls := .type "function", data := .func { fD (S 21) "caseless_default" with globals := 3, defaults := .ref 265, kwdefaults := .none, pyModule := .str "unicore.folding" 477, code := .ref 271 } }
noncomputable def o168 (P : Params) : Obj := { cls := .type "tuple", data := .seq #[.str "one" 540, .str "other" 541, .str "data" 542, .str "is_turkic" 543] }
noncomputable def o169 (P : Params) : Obj := { cls := .none, data := .func { fD (S 22) "matches_default" with globals := 0, defaults := .none, kwdefaults := .none } }
noncomputable def o170 (P : Params) : Obj := { cls := .type "code", data := .fields #[.str "matches_default" 537, .str "matches_default" 538, .str "/claim/cut.py" 539, .int 156 0, .int 4 0, .int 0 0, .int 0 0, .int 3 0, .ref 274, .bool true, .int 181 0, .ref 275, .none, .ref 276, .ref 277, .ref 278, .int 544 0, .int 156 0, .str "/claim/cut.py" 545] }
noncomputable def o171 (P : Params) : Obj := { cls := .type "function", data := .func { fD (S 22) "matches_default" with globals := 3, defaults := .ref 273, kwdefaults := .none, pyModule := .str "unicore.folding" 477, code := .ref 279 } }
noncomputable def o172 (P : Params) : Obj := { cls := .type "dict", data := .dict #[de P "__name__" 165 (.str "unicore.folding" 477), de P "__doc__" 166 .none, de P "__package__" 167 .none, de P "__loader__" 168 (.builtin "__main__.__loader__#opaque"), de P "__spec__" 169 .none, de P "__annotations__" 170 (.ref 6), de P "__builtins__" 171 (.ref 4), de P "__file__" 173 (.str "/claim/cut.py" 172), de P "__cached__" 174 .none, de P "_wall" 193 (.ref 21), de P "MAX_CODE" 197 (.int 1114111 196), de P "place_by_half" 208 (.ref 28), de P "range_first_of" 217 (.ref 35), de P "range_bounds" 223 (.ref 40), de P "range_is_wanted" 232 (.ref 47), de P "range_merged" 247 (.ref 54), de P "CodeSet" 372 (.ref 150), de P "range_set_of" 378 (.ref 159), de P "range_codes" 388 (.ref 166), de P "range_are_like" 396 (.ref 173), de P "RangeMap" 464 (.ref 216), de P "range_rows" 476 (.ref 227), de P "fold_of" 489 (.ref 234), de P "fold_statuses" 498 (.ref 241), de P "fold_by" 509 (.ref 248), de P "fold_simple" 518 (.ref 256), de P "fold_full" 527 (.ref 264), de P "caseless_default" 536 (.ref 272), de P "matches_default" 546 (.ref 280), de P "FoldIndex" 641 (.ref 340), de P "fold_any_in" 650 (.ref 351)] 31 }
noncomputable def o173 (P : Params) : Obj := { cls := .none, data := .fields #[.int 1 0, .int 0 0, .ref 20, .int 6 0, .int 0 0, .ref 27, .int 17 0, .int 0 0, .ref 34, .int 19 0, .int 0 0, .ref 39, .int 27 0, .int 0 0, .ref 46, .int 35 0, .int 0 0, .ref 53, .int 51 0, .int 0 0, .ref 60, .int 89 0, .int 0 0, .ref 158, .int 91 0, .int 0 0, .ref 165, .int 96 0, .int 0 0, .ref 172, .int 98 0, .int 0 0, .ref 179, .int 128 0, .int 0 0, .ref 226, .int 135 0, .int 0 0, .ref 233, .int 142 0, .int 0 0, .ref 240, .int 145 0, .int 0 0, .ref 247, .int 150 0, .int 0 0, .ref 255, .int 152 0, .int 0 0, .ref 263, .int 154 0, .int 0 0, .ref 271, .int 156 0, .int 0 0, .ref 279, .int 158 0, .int 0 0, .ref 286, .int 212 0, .int 0 0, .ref 350] }
noncomputable def o174 (P : Params) : Obj := { cls := .type "dict", data := .dict #[de P "__module__" 554 (.str "unicore.folding" 477), de P "__qualname__" 556 (.str "FoldIndex" 555), de P "__firstlineno__" 558 (.int 158 557), de P "__init__" 571 (.ref 295), de P "put" 580 (.ref 302), de P "alike" 590 (.ref 309), de P "unfolded" 598 (.ref 316), de P "strings" 606 (.ref 323), de P "spelled" 614 (.ref 330), de P "closed" 628 (.ref 337), de P "__static_attributes__" 634 (.ref 338)] 11 }
noncomputable def o175 (P : Params) : Obj := { cls := .none, data := .fields #[.int 160 0, .int 4 0, .ref 294, .int 171 0, .int 4 0, .ref 301, .int 179 0, .int 4 0, .ref 308, .int 188 0, .int 4 0, .ref 315, .int 191 0, .int 4 0, .ref 322, .int 194 0, .int 4 0, .ref 329, .int 197 0, .int 4 0, .ref 336] }
noncomputable def o176 (P : Params) : Obj := { cls := .type "code", data := .fields #[.str "FoldIndex" 549, .str "FoldIndex" 550, .str "/claim/cut.py" 551, .int 158 0, .int 0 0, .int 0 0, .int 0 0, .int 0 0, .ref 284, .bool false, .int 181 0, .ref 285, .none, .none, .none, .none, .int 552 0, .int 158 0, .str "/claim/cut.py" 553] }
noncomputable def o177 (P : Params) : Obj := { cls := .type "frame", slots := #[some (.ref 286), some (.ref 3), some (.ref 283), none, some (.str "unicore.folding" 477), none, some (.ref 0)] }
noncomputable def o178 (P : Params) : Obj := { cls := .type "tuple", data := .seq #[.str "self" 562, .str "data" 563, .str "is_turkic" 564, .str "first" 565, .str "last" 566, .str "known" 567, .str "code" 568] }
noncomputable def o179 (P : Params) : Obj := { cls := .none, data := .func { fD (M 23 0) "FoldIndex.__init__" with globals := 0, defaults := .none, kwdefaults := .none } }
noncomputable def o180 (P : Params) : Obj := { cls := .type "code", data := .fields #[.str "__init__" 559, .str "FoldIndex.__init__" 560, .str "/claim/cut.py" 561, .int 160 0, .int 3 0, .int 0 0, .int 0 0, .int 3 0, .ref 289, .bool true, .int 181 0, .ref 290, .none, .ref 291, .ref 292, .ref 293, .int 569 0, .int 160 0, .str "/claim/cut.py" 570] }
noncomputable def o181 (P : Params) : Obj := { cls := .type "function", data := .func { fD (M 23 0) "FoldIndex.__init__" with globals := 3, defaults := .ref 288, kwdefaults := .none, pyModule := .str "unicore.folding" 477, code := .ref 294 } }
noncomputable def o182 (P : Params) : Obj := { cls := .type "tuple", data := .seq #[.str "self" 575, .str "code" 576, .str "goal" 577] }
noncomputable def o183 (P : Params) : Obj := { cls := .none, data := .func { fD (M 23 1) "FoldIndex.put" with globals := 0, defaults := .none, kwdefaults := .none } }
noncomputable def o184 (P : Params) : Obj := { cls := .type "code", data := .fields #[.str "put" 572, .str "FoldIndex.put" 573, .str "/claim/cut.py" 574, .int 171 0, .int 2 0, .int 0 0, .int 0 0, .int 3 0, .ref 296, .bool true, .int 181 0, .ref 297, .none, .ref 298, .ref 299, .ref 300, .int 578 0, .int 171 0, .str "/claim/cut.py" 579] }
noncomputable def o185 (P : Params) : Obj := { cls := .type "function", data := .func { fD (M 23 1) "FoldIndex.put" with globals := 3, defaults := .none, kwdefaults := .none, pyModule := .str "unicore.folding" 477, code := .ref 301 } }
noncomputable def o186 (P : Params) : Obj := { cls := .type "tuple", data := .seq #[.str "self" 584, .str "code" 585, .str "goal" 586, .str "found" 587] }
noncomputable def o187 (P : Params) : Obj := { cls := .none, data := .func { fD (M 23 2) "FoldIndex.alike" with globals := 0, defaults := .none, kwdefaults := .none } }
noncomputable def o188 (P : Params) : Obj := { cls := .type "code", data := .fields #[.str "alike" 581, .str "FoldIndex.alike" 582, .str "/claim/cut.py" 583, .int 179 0, .int 2 0, .int 0 0, .int 0 0, .int 3 0, .ref 303, .bool true, .int 181 0, .ref 304, .none, .ref 305, .ref 306, .ref 307, .int 588 0, .int 179 0, .str "/claim/cut.py" 589] }
noncomputable def o189 (P : Params) : Obj := { cls := .type "function", data := .func { fD (M 23 2) "FoldIndex.alike" with globals := 3, defaults := .none, kwdefaults := .none, pyModule := .str "unicore.folding" 477, code := .ref 308 } }
noncomputable def o190 (P : Params) : Obj := { cls := .type "tuple", data := .seq #[.str "self" 594, .str "goal" 595] }
noncomputable def o191 (P : Params) : Obj := { cls := .none, data := .func { fD (M 23 3) "FoldIndex.unfolded" with globals := 0, defaults := .none, kwdefaults := .none } }
noncomputable def o192 (P : Params) : Obj := { cls := .type "code", data := .fields #[.str "unfolded" 591, .str "FoldIndex.unfolded" 592, .str "/claim/cut.py" 593, .int 188 0, .int 2 0, .int 0 0, .int 0 0, .int 3 0, .ref 310, .bool true, .int 181 0, .ref 311, .none, .ref 312, .ref 313, .ref 314, .int 596 0, .int 188 0, .str "/claim/cut.py" 597] }
noncomputable def o193 (P : Params) : Obj := { cls := .type "function", data := .func { fD (M 23 3) "FoldIndex.unfolded" with globals := 3, defaults := .none, kwdefaults := .none, pyModule := .str "unicore.folding" 477, code := .ref 315 } }
noncomputable def o194 (P : Params) : Obj := { cls := .type "tuple", data := .seq #[.str "self" 602, .str "code" 603] }
noncomputable def o195 (P : Params) : Obj := { cls := .none, data := .func { fD (M 23 4) "FoldIndex.strings" with globals := 0, defaults := .none, kwdefaults := .none } }
noncomputable def o196 (P : Params) : Obj := { cls := .type "code", data := .fields #[.str "strings" 599, .str "FoldIndex.strings" 600, .str "/claim/cut.py" 601, .int 191 0, .int 2 0, .int 0 0, .int 0 0, .int 3 0, .ref 317, .bool true, .int 181 0, .ref 318, .none, .ref 319, .ref 320, .ref 321, .int 604 0, .int 191 0, .str "/claim/cut.py" 605] }
noncomputable def o197 (P : Params) : Obj := { cls := .type "function", data := .func { fD (M 23 4) "FoldIndex.strings" with globals := 3, defaults := .none, kwdefaults := .none, pyModule := .str "unicore.folding" 477, code := .ref 322 } }
noncomputable def o198 (P : Params) : Obj := { cls := .type "tuple", data := .seq #[.str "self" 610, .str "goal" 611] }
noncomputable def o199 (P : Params) : Obj := { cls := .none, data := .func { fD (M 23 5) "FoldIndex.spelled" with globals := 0, defaults := .none, kwdefaults := .none } }
noncomputable def o200 (P : Params) : Obj := { cls := .type "code", data := .fields #[.str "spelled" 607, .str "FoldIndex.spelled" 608, .str "/claim/cut.py" 609, .int 194 0, .int 2 0, .int 0 0, .int 0 0, .int 3 0, .ref 324, .bool true, .int 181 0, .ref 325, .none, .ref 326, .ref 327, .ref 328, .int 612 0, .int 194 0, .str "/claim/cut.py" 613] }
noncomputable def o201 (P : Params) : Obj := { cls := .type "function", data := .func { fD (M 23 5) "FoldIndex.spelled" with globals := 3, defaults := .none, kwdefaults := .none, pyModule := .str "unicore.folding" 477, code := .ref 329 } }
noncomputable def o202 (P : Params) : Obj := { cls := .type "tuple", data := .seq #[.str "self" 618, .str "codes" 619, .str "found" 620, .str "first" 621, .str "last" 622, .str "goal" 623, .str "group" 624, .str "one" 625] }
noncomputable def o203 (P : Params) : Obj := { cls := .none, data := .func { fD (M 23 6) "FoldIndex.closed" with globals := 0, defaults := .none, kwdefaults := .none } }
noncomputable def o204 (P : Params) : Obj := { cls := .type "code", data := .fields #[.str "closed" 615, .str "FoldIndex.closed" 616, .str "/claim/cut.py" 617, .int 197 0, .int 2 0, .int 0 0, .int 0 0, .int 3 0, .ref 331, .bool true, .int 181 0, .ref 332, .none, .ref 333, .ref 334, .ref 335, .int 626 0, .int 197 0, .str "/claim/cut.py" 627] }
noncomputable def o205 (P : Params) : Obj := { cls := .type "function", data := .func { fD (M 23 6) "FoldIndex.closed" with globals := 3, defaults := .none, kwdefaults := .none, pyModule := .str "unicore.folding" 477, code := .ref 336 } }
noncomputable def o206 (P : Params) : Obj := { cls := .type "tuple", data := .seq #[.str "data" 629, .str "full" 630, .str "simple" 631, .str "to_many" 632, .str "to_one" 633] }
noncomputable def o207 (P : Params) : Obj := { cls := .type "dict", data := .dict #[de P "__module__" 554 (.str "unicore.folding" 477), de P "__firstlineno__" 558 (.int 158 557), de P "__init__" 571 (.ref 295), de P "put" 580 (.ref 302), de P "alike" 590 (.ref 309), de P "unfolded" 598 (.ref 316), de P "strings" 606 (.ref 323), de P "spelled" 614 (.ref 330), de P "closed" 628 (.ref 337), de P "__static_attributes__" 634 (.ref 338), de P "__dict__" 636 (.ref 341), de P "__weakref__" 638 (.ref 342), de P "__doc__" 639 .none] 4 }
noncomputable def o208 (P : Params) : Obj := { cls := .type "type", data := .cls { name := "FoldIndex", bases := [.type "object"], mro := [.ref 340, .type "object"], ns := 339, qualname := "FoldIndex" }, slots := #[none, none, some (.str "FoldIndex" 547), some (.str "FoldIndex" 555), some (.builtin "object.__new__"), some (.bool true)] }
noncomputable def o209 (P : Params) : Obj := { cls := .type "getset_descriptor", data := .fields #[.str "__dict__" 635, .ref 340, .builtin "function.__dict__", .builtin "function.__dict__#set"] }
noncomputable def o210 (P : Params) : Obj := { cls := .type "getset_descriptor", data := .fields #[.str "__weakref__" 637, .ref 340, .builtin "ExceptionGroup.__weakref__", .none] }
noncomputable def o211 (P : Params) : Obj := { cls := .type "super", data := .fields #[.ref 340, .ref 340, .ref 340] }
noncomputable def o212 (P : Params) : Obj := { cls := .type "builtin_function_or_method", data := .fields #[.builtin "object.__init_subclass__", .ref 340] }
noncomputable def o213 (P : Params) : Obj := { cls := .type "tuple", data := .seq #[.str "group" 645, .str "codes" 646, .str "one" 647] }
noncomputable def o214 (P : Params) : Obj := { cls := .none, data := .func { fD (S 24) "fold_any_in" with globals := 0, defaults := .none, kwdefaults := .none } }
noncomputable def o215 (P : Params) : Obj := { cls := .type "code", data := .fields #[.str "fold_any_in" 642, .str "fold_any_in" 643, .str "/claim/cut.py" 644, .int 212 0, .int 2 0, .int 0 0, .int 0 0, .int 3 0, .ref 345, .bool true, .int 181 0, .ref 346, .none, .ref 347, .ref 348, .ref 349, .int 648 0, .int 212 0, .str "/claim/cut.py" 649] }
noncomputable def o216 (P : Params) : Obj := { cls := .type "function", data := .func { fD (S 24) "fold_any_in" with globals := 3, defaults := .none, kwdefaults := .none, pyModule := .str "unicore.folding" 477, code := .ref 350 } }
noncomputable def o217 (P : Params) : Obj := { cls := .type "dict", data := .dict #[de P "__name__" 165 (.str "unicore.data" 679), de P "__doc__" 166 .none, de P "__package__" 167 .none, de P "__loader__" 168 (.builtin "__main__.__loader__#opaque"), de P "__spec__" 169 .none, de P "__annotations__" 170 (.ref 6), de P "__builtins__" 171 (.ref 4), de P "__file__" 173 (.str "/claim/cut.py" 172), de P "__cached__" 174 .none, de P "_wall" 193 (.ref 21), de P "MAX_CODE" 197 (.int 1114111 196), de P "place_by_half" 208 (.ref 28), de P "range_first_of" 217 (.ref 35), de P "range_bounds" 223 (.ref 40), de P "range_is_wanted" 232 (.ref 47), de P "range_merged" 247 (.ref 54), de P "CodeSet" 372 (.ref 150), de P "range_set_of" 378 (.ref 159), de P "range_codes" 388 (.ref 166), de P "range_are_like" 396 (.ref 173), de P "RangeMap" 464 (.ref 216), de P "range_rows" 476 (.ref 227), de P "fold_of" 489 (.ref 234), de P "fold_statuses" 498 (.ref 241), de P "fold_by" 509 (.ref 248), de P "fold_simple" 518 (.ref 256), de P "fold_full" 527 (.ref 264), de P "caseless_default" 536 (.ref 272), de P "matches_default" 546 (.ref 280), de P "FoldIndex" 641 (.ref 340), de P "fold_any_in" 650 (.ref 351), de P "fold_find" 665 (.ref 359), de P "fold_end" 678 (.ref 366), de P "data_defaults" 688 (.ref 373), de P "Data" 747 (.ref 411)] 35 }
noncomputable def o218 (P : Params) : Obj := { cls := .none, data := .fields #[.int 1 0, .int 0 0, .ref 20, .int 6 0, .int 0 0, .ref 27, .int 17 0, .int 0 0, .ref 34, .int 19 0, .int 0 0, .ref 39, .int 27 0, .int 0 0, .ref 46, .int 35 0, .int 0 0, .ref 53, .int 51 0, .int 0 0, .ref 60, .int 89 0, .int 0 0, .ref 158, .int 91 0, .int 0 0, .ref 165, .int 96 0, .int 0 0, .ref 172, .int 98 0, .int 0 0, .ref 179, .int 128 0, .int 0 0, .ref 226, .int 135 0, .int 0 0, .ref 233, .int 142 0, .int 0 0, .ref 240, .int 145 0, .int 0 0, .ref 247, .int 150 0, .int 0 0, .ref 255, .int 152 0, .int 0 0, .ref 263, .int 154 0, .int 0 0, .ref 271, .int 156 0, .int 0 0, .ref 279, .int 158 0, .int 0 0, .ref 286, .int 212 0, .int 0 0, .ref 350, .int 217 0, .int 0 0, .ref 358, .int 228 0, .int 0 0, .ref 365, .int 235 0, .int 0 0, .ref 372, .int 247 0, .int 0 0, .ref 379] }
noncomputable def o219 (P : Params) : Obj := { cls := .type "tuple", data := .seq #[.str "text" 654, .str "part" 655, .str "data" 656, .str "is_turkic" 657, .str "goal" 658, .str "statuses" 659, .str "found" 660, .str "at" 661, .str "end" 662] }
noncomputable def o220 (P : Params) : Obj := { cls := .none, data := .func { fD (S 25) "fold_find" with globals := 0, defaults := .none, kwdefaults := .none } }
noncomputable def o221 (P : Params) : Obj := { cls := .type "code", data := .fields #[.str "fold_find" 651, .str "fold_find" 652, .str "/claim/cut.py" 653, .int 217 0, .int 4 0, .int 0 0, .int 0 0, .int 3 0, .ref 353, .bool true, .int 181 0, .ref 354, .none, .ref 355, .ref 356, .ref 357, .int 663 0, .int 217 0, .str "/claim/cut.py" 664] }
noncomputable def o222 (P : Params) : Obj := { cls := .type "function", data := .func { fD (S 25) "fold_find" with globals := 3, defaults := .ref 352, kwdefaults := .none, pyModule := .str "unicore.folding" 477, code := .ref 358 } }
noncomputable def o223 (P : Params) : Obj := { cls := .type "tuple", data := .seq #[.str "text" 669, .str "at" 670, .str "goal" 671, .str "data" 672, .str "statuses" 673, .str "known" 674, .str "place" 675] }
noncomputable def o224 (P : Params) : Obj := { cls := .none, data := .func { fD (S 26) "fold_end" with globals := 0, defaults := .none, kwdefaults := .none } }
noncomputable def o225 (P : Params) : Obj := { cls := .type "code", data := .fields #[.str "fold_end" 666, .str "fold_end" 667, .str "/claim/cut.py" 668, .int 228 0, .int 5 0, .int 0 0, .int 0 0, .int 3 0, .ref 360, .bool true, .int 181 0, .ref 361, .none, .ref 362, .ref 363, .ref 364, .int 676 0, .int 228 0, .str "/claim/cut.py" 677] }
noncomputable def o226 (P : Params) : Obj := { cls := .type "function", data := .func { fD (S 26) "fold_end" with globals := 3, defaults := .none, kwdefaults := .none, pyModule := .str "unicore.folding" 477, code := .ref 365 } }
noncomputable def o227 (P : Params) : Obj := { cls := .type "tuple", data := .seq #[.str "found" 684, .str "name" 685] }
noncomputable def o228 (P : Params) : Obj := { cls := .none, data := .func { fD (S 28) "data_defaults" with globals := 0, defaults := .none, kwdefaults := .none } }
noncomputable def o229 (P : Params) : Obj := { cls := .type "code", data := .fields #[.str "data_defaults" 681, .str "data_defaults" 682, .str "/claim/cut.py" 683, .int 235 0, .int 0 0, .int 0 0, .int 0 0, .int 3 0, .ref 367, .bool true, .int 181 0, .ref 368, .none, .ref 369, .ref 370, .ref 371, .int 686 0, .int 235 0, .str "/claim/cut.py" 687] }
noncomputable def o230 (P : Params) : Obj := { cls := .type "function", data := .func { fD (S 28) "data_defaults" with globals := 3, defaults := .none, kwdefaults := .none, pyModule := .str "unicore.data" 679, code := .ref 372 } }
noncomputable def o231 (P : Params) : Obj := { cls := .type "dict", data := .dict #[de P "__module__" 696 (.str "unicore.data" 679), de P "__qualname__" 698 (.str "Data" 697), de P "__firstlineno__" 700 (.int 247 699), de P "__init__" 707 (.ref 387), de P "put" 718 (.ref 394), de P "get" 727 (.ref 401), de P "map_of" 735 (.ref 408), de P "__static_attributes__" 740 (.ref 409)] 8 }
noncomputable def o232 (P : Params) : Obj := { cls := .none, data := .fields #[.int 249 0, .int 4 0, .ref 386, .int 255 0, .int 4 0, .ref 393, .int 258 0, .int 4 0, .ref 400, .int 263 0, .int 4 0, .ref 407] }
noncomputable def o233 (P : Params) : Obj := { cls := .type "code", data := .fields #[.str "Data" 691, .str "Data" 692, .str "/claim/cut.py" 693, .int 247 0, .int 0 0, .int 0 0, .int 0 0, .int 0 0, .ref 377, .bool false, .int 181 0, .ref 378, .none, .none, .none, .none, .int 694 0, .int 247 0, .str "/claim/cut.py" 695] }
noncomputable def o234 (P : Params) : Obj := { cls := .type "frame", slots := #[some (.ref 379), some (.ref 3), some (.ref 376), none, some (.str "unicore.data" 679), none, some (.ref 0)] }
noncomputable def o235 (P : Params) : Obj := { cls := .type "tuple", data := .seq #[.str "self" 704] }
noncomputable def o236 (P : Params) : Obj := { cls := .none, data := .func { fD (M 29 0) "Data.__init__" with globals := 0, defaults := .none, kwdefaults := .none } }
noncomputable def o237 (P : Params) : Obj := { cls := .type "code", data := .fields #[.str "__init__" 701, .str "Data.__init__" 702, .str "/claim/cut.py" 703, .int 249 0, .int 1 0, .int 0 0, .int 0 0, .int 3 0, .ref 381, .bool true, .int 181 0, .ref 382, .none, .ref 383, .ref 384, .ref 385, .int 705 0, .int 249 0, .str "/claim/cut.py" 706] }
noncomputable def o238 (P : Params) : Obj := { cls := .type "function", data := .func { fD (M 29 0) "Data.__init__" with globals := 3, defaults := .none, kwdefaults := .none, pyModule := .str "unicore.data" 679, code := .ref 386 } }
noncomputable def o239 (P : Params) : Obj := { cls := .type "tuple", data := .seq #[.str "self" 711, .str "name" 712, .str "first" 713, .str "last" 714, .str "value" 715] }
noncomputable def o240 (P : Params) : Obj := { cls := .none, data := .func { fD (M 29 1) "Data.put" with globals := 0, defaults := .none, kwdefaults := .none } }
noncomputable def o241 (P : Params) : Obj := { cls := .type "code", data := .fields #[.str "put" 708, .str "Data.put" 709, .str "/claim/cut.py" 710, .int 255 0, .int 5 0, .int 0 0, .int 0 0, .int 3 0, .ref 388, .bool true, .int 181 0, .ref 389, .none, .ref 390, .ref 391, .ref 392, .int 716 0, .int 255 0, .str "/claim/cut.py" 717] }
noncomputable def o242 (P : Params) : Obj := { cls := .type "function", data := .func { fD (M 29 1) "Data.put" with globals := 3, defaults := .none, kwdefaults := .none, pyModule := .str "unicore.data" 679, code := .ref 393 } }
noncomputable def o243 (P : Params) : Obj := { cls := .type "tuple", data := .seq #[.str "self" 722, .str "name" 723, .str "code" 724] }
noncomputable def o244 (P : Params) : Obj := { cls := .none, data := .func { fD (M 29 2) "Data.get" with globals := 0, defaults := .none, kwdefaults := .none } }
noncomputable def o245 (P : Params) : Obj := { cls := .type "code", data := .fields #[.str "get" 719, .str "Data.get" 720, .str "/claim/cut.py" 721, .int 258 0, .int 3 0, .int 0 0, .int 0 0, .int 3 0, .ref 395, .bool true, .int 181 0, .ref 396, .none, .ref 397, .ref 398, .ref 399, .int 725 0, .int 258 0, .str "/claim/cut.py" 726] }
noncomputable def o246 (P : Params) : Obj := { cls := .type "function", data := .func { fD (M 29 2) "Data.get" with globals := 3, defaults := .none, kwdefaults := .none, pyModule := .str "unicore.data" 679, code := .ref 400 } }
noncomputable def o247 (P : Params) : Obj := { cls := .type "tuple", data := .seq #[.str "self" 731, .str "name" 732] }
noncomputable def o248 (P : Params) : Obj := { cls := .none, data := .func { fD (M 29 3) "Data.map_of" with globals := 0, defaults := .none, kwdefaults := .none } }
noncomputable def o249 (P : Params) : Obj := { cls := .type "code", data := .fields #[.str "map_of" 728, .str "Data.map_of" 729, .str "/claim/cut.py" 730, .int 263 0, .int 2 0, .int 0 0, .int 0 0, .int 3 0, .ref 402, .bool true, .int 181 0, .ref 403, .none, .ref 404, .ref 405, .ref 406, .int 733 0, .int 263 0, .str "/claim/cut.py" 734] }
noncomputable def o250 (P : Params) : Obj := { cls := .type "function", data := .func { fD (M 29 3) "Data.map_of" with globals := 3, defaults := .none, kwdefaults := .none, pyModule := .str "unicore.data" 679, code := .ref 407 } }
noncomputable def o251 (P : Params) : Obj := { cls := .type "tuple", data := .seq #[.str "defaults" 736, .str "maps" 737, .str "properties" 738, .str "words" 739] }
noncomputable def o252 (P : Params) : Obj := { cls := .type "dict", data := .dict #[de P "__module__" 696 (.str "unicore.data" 679), de P "__firstlineno__" 700 (.int 247 699), de P "__init__" 707 (.ref 387), de P "put" 718 (.ref 394), de P "get" 727 (.ref 401), de P "map_of" 735 (.ref 408), de P "__static_attributes__" 740 (.ref 409), de P "__dict__" 742 (.ref 412), de P "__weakref__" 744 (.ref 413), de P "__doc__" 745 .none] 4 }
noncomputable def o253 (P : Params) : Obj := { cls := .type "type", data := .cls { name := "Data", bases := [.type "object"], mro := [.ref 411, .type "object"], ns := 410, qualname := "Data" }, slots := #[none, none, some (.str "Data" 689), some (.str "Data" 697), some (.builtin "object.__new__"), some (.bool true)] }
noncomputable def o254 (P : Params) : Obj := { cls := .type "getset_descriptor", data := .fields #[.str "__dict__" 741, .ref 411, .builtin "function.__dict__", .builtin "function.__dict__#set"] }
noncomputable def o255 (P : Params) : Obj := { cls := .type "getset_descriptor", data := .fields #[.str "__weakref__" 743, .ref 411, .builtin "ExceptionGroup.__weakref__", .none] }
noncomputable def o256 (P : Params) : Obj := { cls := .type "super", data := .fields #[.ref 411, .ref 411, .ref 411] }
noncomputable def o257 (P : Params) : Obj := { cls := .type "builtin_function_or_method", data := .fields #[.builtin "object.__init_subclass__", .ref 411] }
noncomputable def o258 (P : Params) : Obj := { cls := .type "dict", data := .dict #[de P "__name__" 165 (.str "law_nt0022_01" 748), de P "__doc__" 166 .none, de P "__package__" 167 .none, de P "__loader__" 168 (.builtin "__main__.__loader__#opaque"), de P "__spec__" 169 .none, de P "__annotations__" 170 (.ref 6), de P "__builtins__" 171 (.ref 4), de P "__file__" 173 (.str "/claim/cut.py" 172), de P "__cached__" 174 .none, de P "_wall" 193 (.ref 21), de P "MAX_CODE" 197 (.int 1114111 196), de P "place_by_half" 208 (.ref 28), de P "range_first_of" 217 (.ref 35), de P "range_bounds" 223 (.ref 40), de P "range_is_wanted" 232 (.ref 47), de P "range_merged" 247 (.ref 54), de P "CodeSet" 372 (.ref 150), de P "range_set_of" 378 (.ref 159), de P "range_codes" 388 (.ref 166), de P "range_are_like" 396 (.ref 173), de P "RangeMap" 464 (.ref 216), de P "range_rows" 476 (.ref 227), de P "fold_of" 489 (.ref 234), de P "fold_statuses" 498 (.ref 241), de P "fold_by" 509 (.ref 248), de P "fold_simple" 518 (.ref 256), de P "fold_full" 527 (.ref 264), de P "caseless_default" 536 (.ref 272), de P "matches_default" 546 (.ref 280), de P "FoldIndex" 641 (.ref 340), de P "fold_any_in" 650 (.ref 351), de P "fold_find" 665 (.ref 359), de P "fold_end" 678 (.ref 366), de P "data_defaults" 688 (.ref 373), de P "Data" 747 (.ref 411), de P "_law_pool" 764 (.ref 416), de P "_law_deck" 770 (.ref 421), de P "_law_draw" 778 (.ref 428), de P "_law_told" 787 (.ref 435), de P "_law_folded" 799 (.ref 442), de P "_law_text" 811 (.ref 449), de P "_law_found" 817 (.ref 454), de P "_law_index_right" 823 (.ref 459), de P "law" 829 (.ref 464)] 44 }
noncomputable def o259 (P : Params) : Obj := { cls := .none, data := .fields #[.int 1 0, .int 0 0, .ref 20, .int 6 0, .int 0 0, .ref 27, .int 17 0, .int 0 0, .ref 34, .int 19 0, .int 0 0, .ref 39, .int 27 0, .int 0 0, .ref 46, .int 35 0, .int 0 0, .ref 53, .int 51 0, .int 0 0, .ref 60, .int 89 0, .int 0 0, .ref 158, .int 91 0, .int 0 0, .ref 165, .int 96 0, .int 0 0, .ref 172, .int 98 0, .int 0 0, .ref 179, .int 128 0, .int 0 0, .ref 226, .int 135 0, .int 0 0, .ref 233, .int 142 0, .int 0 0, .ref 240, .int 145 0, .int 0 0, .ref 247, .int 150 0, .int 0 0, .ref 255, .int 152 0, .int 0 0, .ref 263, .int 154 0, .int 0 0, .ref 271, .int 156 0, .int 0 0, .ref 279, .int 158 0, .int 0 0, .ref 286, .int 212 0, .int 0 0, .ref 350, .int 217 0, .int 0 0, .ref 358, .int 228 0, .int 0 0, .ref 365, .int 235 0, .int 0 0, .ref 372, .int 247 0, .int 0 0, .ref 379, .int 269 0, .int 0 0, .ref 420, .int 274 0, .int 0 0, .ref 427, .int 279 0, .int 0 0, .ref 434, .int 287 0, .int 0 0, .ref 441, .int 293 0, .int 0 0, .ref 448, .int 298 0, .int 0 0, .ref 453, .int 308 0, .int 0 0, .ref 458, .int 322 0, .int 0 0, .ref 463] }
noncomputable def o260 (P : Params) : Obj := { cls := .type "list", data := .seq #[.int 97 750, .int 98 751, .int 99 752, .int 65 753, .int 66 754, .int 223 755, .int 7838 756, .int 8490 757, .int 64261 758, .int 73 759, .int 304 760, .int 105 761, .int 305 762, .int 775 763] }
noncomputable def o261 (P : Params) : Obj := { cls := .none, data := .func { fD (S 32) "_law_deck" with globals := 0, defaults := .none, kwdefaults := .none } }
noncomputable def o262 (P : Params) : Obj := { cls := .type "code", data := .fields #[.str "_law_deck" 765, .str "_law_deck" 766, .str "/claim/cut.py" 767, .int 269 0, .int 1 0, .int 0 0, .int 0 0, .int 3 0, .ref 417, .bool true, .int 181 0, .ref 418, .none, .none, .none, .ref 419, .int 768 0, .int 269 0, .str "/claim/cut.py" 769] }
noncomputable def o263 (P : Params) : Obj := { cls := .type "function", data := .func { fD (S 32) "_law_deck" with globals := 3, defaults := .none, kwdefaults := .none, pyModule := .str "law_nt0022_01" 748, code := .ref 420 } }
noncomputable def o264 (P : Params) : Obj := { cls := .type "tuple", data := .seq #[.str "deck" 774, .str "many" 775] }
noncomputable def o265 (P : Params) : Obj := { cls := .none, data := .func { fD (S 33) "_law_draw" with globals := 0, defaults := .none, kwdefaults := .none } }
noncomputable def o266 (P : Params) : Obj := { cls := .type "code", data := .fields #[.str "_law_draw" 771, .str "_law_draw" 772, .str "/claim/cut.py" 773, .int 274 0, .int 2 0, .int 0 0, .int 0 0, .int 3 0, .ref 422, .bool true, .int 181 0, .ref 423, .none, .ref 424, .ref 425, .ref 426, .int 776 0, .int 274 0, .str "/claim/cut.py" 777] }
noncomputable def o267 (P : Params) : Obj := { cls := .type "function", data := .func { fD (S 33) "_law_draw" with globals := 3, defaults := .none, kwdefaults := .none, pyModule := .str "law_nt0022_01" 748, code := .ref 427 } }
noncomputable def o268 (P : Params) : Obj := { cls := .type "tuple", data := .seq #[.str "deck" 782, .str "told" 783, .str "pair" 784] }
noncomputable def o269 (P : Params) : Obj := { cls := .none, data := .func { fD (S 34) "_law_told" with globals := 0, defaults := .none, kwdefaults := .none } }
noncomputable def o270 (P : Params) : Obj := { cls := .type "code", data := .fields #[.str "_law_told" 779, .str "_law_told" 780, .str "/claim/cut.py" 781, .int 279 0, .int 1 0, .int 0 0, .int 0 0, .int 3 0, .ref 429, .bool true, .int 181 0, .ref 430, .none, .ref 431, .ref 432, .ref 433, .int 785 0, .int 279 0, .str "/claim/cut.py" 786] }
noncomputable def o271 (P : Params) : Obj := { cls := .type "function", data := .func { fD (S 34) "_law_told" with globals := 3, defaults := .none, kwdefaults := .none, pyModule := .str "law_nt0022_01" 748, code := .ref 434 } }
noncomputable def o272 (P : Params) : Obj := { cls := .type "tuple", data := .seq #[.str "told" 791, .str "code" 792, .str "is_full" 793, .str "is_turkic" 794, .str "row" 795, .str "status" 796] }
noncomputable def o273 (P : Params) : Obj := { cls := .none, data := .func { fD (S 35) "_law_folded" with globals := 0, defaults := .none, kwdefaults := .none } }
noncomputable def o274 (P : Params) : Obj := { cls := .type "code", data := .fields #[.str "_law_folded" 788, .str "_law_folded" 789, .str "/claim/cut.py" 790, .int 287 0, .int 4 0, .int 0 0, .int 0 0, .int 3 0, .ref 436, .bool true, .int 181 0, .ref 437, .none, .ref 438, .ref 439, .ref 440, .int 797 0, .int 287 0, .str "/claim/cut.py" 798] }
noncomputable def o275 (P : Params) : Obj := { cls := .type "function", data := .func { fD (S 35) "_law_folded" with globals := 3, defaults := .none, kwdefaults := .none, pyModule := .str "law_nt0022_01" 748, code := .ref 441 } }
noncomputable def o276 (P : Params) : Obj := { cls := .type "tuple", data := .seq #[.str "told" 803, .str "text" 804, .str "is_full" 805, .str "is_turkic" 806, .str "found" 807, .str "code" 808] }
noncomputable def o277 (P : Params) : Obj := { cls := .none, data := .func { fD (S 36) "_law_text" with globals := 0, defaults := .none, kwdefaults := .none } }
noncomputable def o278 (P : Params) : Obj := { cls := .type "code", data := .fields #[.str "_law_text" 800, .str "_law_text" 801, .str "/claim/cut.py" 802, .int 293 0, .int 4 0, .int 0 0, .int 0 0, .int 3 0, .ref 443, .bool true, .int 181 0, .ref 444, .none, .ref 445, .ref 446, .ref 447, .int 809 0, .int 293 0, .str "/claim/cut.py" 810] }
noncomputable def o279 (P : Params) : Obj := { cls := .type "function", data := .func { fD (S 36) "_law_text" with globals := 3, defaults := .none, kwdefaults := .none, pyModule := .str "law_nt0022_01" 748, code := .ref 448 } }
noncomputable def o280 (P : Params) : Obj := { cls := .none, data := .func { fD (S 37) "_law_found" with globals := 0, defaults := .none, kwdefaults := .none } }
noncomputable def o281 (P : Params) : Obj := { cls := .type "code", data := .fields #[.str "_law_found" 812, .str "_law_found" 813, .str "/claim/cut.py" 814, .int 298 0, .int 4 0, .int 0 0, .int 0 0, .int 3 0, .ref 450, .bool true, .int 181 0, .ref 451, .none, .none, .none, .ref 452, .int 815 0, .int 298 0, .str "/claim/cut.py" 816] }
noncomputable def o282 (P : Params) : Obj := { cls := .type "function", data := .func { fD (S 37) "_law_found" with globals := 3, defaults := .none, kwdefaults := .none, pyModule := .str "law_nt0022_01" 748, code := .ref 453 } }
noncomputable def o283 (P : Params) : Obj := { cls := .none, data := .func { fD (S 38) "_law_index_right" with globals := 0, defaults := .none, kwdefaults := .none } }
noncomputable def o284 (P : Params) : Obj := { cls := .type "code", data := .fields #[.str "_law_index_right" 818, .str "_law_index_right" 819, .str "/claim/cut.py" 820, .int 308 0, .int 4 0, .int 0 0, .int 0 0, .int 3 0, .ref 455, .bool true, .int 181 0, .ref 456, .none, .none, .none, .ref 457, .int 821 0, .int 308 0, .str "/claim/cut.py" 822] }
noncomputable def o285 (P : Params) : Obj := { cls := .type "function", data := .func { fD (S 38) "_law_index_right" with globals := 3, defaults := .none, kwdefaults := .none, pyModule := .str "law_nt0022_01" 748, code := .ref 458 } }
noncomputable def o286 (P : Params) : Obj := { cls := .none, data := .func { fD (S 39) "law" with globals := 0, defaults := .none, kwdefaults := .none } }
noncomputable def o287 (P : Params) : Obj := { cls := .type "code", data := .fields #[.str "law" 824, .str "law" 825, .str "/claim/cut.py" 826, .int 322 0, .int 1 0, .int 0 0, .int 0 0, .int 3 0, .ref 460, .bool true, .int 181 0, .ref 461, .none, .none, .none, .ref 462, .int 827 0, .int 322 0, .str "/claim/cut.py" 828] }
noncomputable def o288 (P : Params) : Obj := { cls := .type "function", data := .func { fD (S 39) "law" with globals := 3, defaults := .none, kwdefaults := .none, pyModule := .str "law_nt0022_01" 748, code := .ref 463 } }
noncomputable def l0 (P : Params) : List Obj := [boot_o_0 P, boot_o_1 P, boot_o_2 P, boot_o_3 P, boot_o_4 P, boot_o_5 P, boot_o_6 P, boot_o_7 P, boot_o_8 P, boot_o_9 P, boot_o_10 P, o0 P, o1 P, o2 P, o3 P]
noncomputable def l1 (P : Params) : List Obj := (((l0 P).set 3 (o4 P)).set 12 (o5 P)) ++ [o0 P, o1 P, o6 P, o0 P, o7 P, o8 P, o9 P, o0 P, o1 P, o10 P, o0 P, o11 P, o12 P, o13 P, o0 P, o1 P, o14 P, o0 P, o15 P, o16 P, o17 P, o0 P, o1 P, o18 P, o19 P, o20 P, o0 P, o1 P, o21 P, o0 P, o22 P, o23 P, o24 P, o0 P, o1 P, o25 P, o0 P, o26 P, o27 P, o28 P]
noncomputable def l2 (P : Params) : List Obj := (((l1 P).set 3 (o29 P)).set 12 (o30 P)) ++ [o0 P, o31 P, o32 P, o0 P, o33 P, o34 P, o35 P, o36 P, o0 P, o1 P, o37 P, o0 P, o38 P, o39 P, o40 P, o0 P, o1 P, o41 P, o0 P, o42 P, o43 P, o44 P, o45 P, o46 P, o47 P, o0 P, o1 P, o48 P, o0 P, o49 P, o50 P, o51 P, o0 P, o1 P, o52 P, o53 P, o54 P, o0 P, o1 P, o55 P, o0 P, o56 P, o57 P, o58 P, o0 P, o1 P, o59 P, o0 P, o60 P, o61 P, o62 P, o0 P, o1 P, o63 P, o0 P, o64 P, o65 P, o66 P, o0 P, o1 P, o67 P, o0 P, o68 P, o69 P, o70 P, o0 P, o1 P, o71 P, o0 P, o72 P, o73 P, o74 P, o0 P, o1 P, o75 P, o0 P, o76 P, o77 P, o78 P, o0 P, o1 P, o79 P, o0 P, o80 P, o81 P, o82 P, o0 P, o1 P, o83 P, o0 P, o84 P, o85 P, o86 P, o87 P, o88 P, o89 P, o90 P, o91 P, o92 P, o93 P]
noncomputable def l3 (P : Params) : List Obj := (((l2 P).set 3 (o94 P)).set 12 (o95 P)) ++ [o0 P, o1 P, o96 P, o97 P, o98 P, o0 P, o1 P, o99 P, o0 P, o100 P, o101 P, o102 P, o0 P, o1 P, o103 P, o0 P, o104 P, o105 P, o106 P, o0 P, o31 P, o107 P, o0 P, o108 P, o109 P, o110 P, o0 P, o1 P, o111 P, o0 P, o112 P, o113 P, o114 P, o0 P, o1 P, o115 P, o0 P, o116 P, o117 P, o118 P, o0 P, o1 P, o119 P, o0 P, o120 P, o121 P, o122 P, o0 P, o1 P, o123 P, o124 P, o125 P, o0 P, o1 P, o126 P, o0 P, o127 P, o128 P, o129 P, o130 P, o131 P, o132 P, o133 P, o134 P, o135 P, o136 P]
noncomputable def l4 (P : Params) : List Obj := (((l3 P).set 3 (o137 P)).set 12 (o138 P)) ++ [o0 P, o1 P, o139 P, o0 P, o140 P, o141 P, o142 P, o0 P, o1 P, o143 P, o0 P, o144 P, o145 P, o146 P, o0 P, o1 P, o147 P, o0 P, o148 P, o149 P, o150 P, o0 P, o1 P, o151 P, o0 P, o152 P, o153 P, o154 P, o155 P, o0 P, o1 P, o156 P, o0 P, o157 P, o158 P, o159 P, o155 P, o0 P, o1 P, o160 P, o0 P, o161 P, o162 P, o163 P, o155 P, o0 P, o1 P, o164 P, o0 P, o165 P, o166 P, o167 P, o155 P, o0 P, o1 P, o168 P, o0 P, o169 P, o170 P, o171 P]
noncomputable def l5 (P : Params) : List Obj := (((l4 P).set 3 (o172 P)).set 12 (o173 P)) ++ [o0 P, o31 P, o174 P, o0 P, o175 P, o176 P, o177 P, o155 P, o0 P, o1 P, o178 P, o0 P, o179 P, o180 P, o181 P, o0 P, o1 P, o182 P, o0 P, o183 P, o184 P, o185 P, o0 P, o1 P, o186 P, o0 P, o187 P, o188 P, o189 P, o0 P, o1 P, o190 P, o0 P, o191 P, o192 P, o193 P, o0 P, o1 P, o194 P, o0 P, o195 P, o196 P, o197 P, o0 P, o1 P, o198 P, o0 P, o199 P, o200 P, o201 P, o0 P, o1 P, o202 P, o0 P, o203 P, o204 P, o205 P, o206 P, o207 P, o208 P, o209 P, o210 P, o211 P, o212 P, o0 P, o1 P, o213 P, o0 P, o214 P, o215 P, o216 P]
noncomputable def l6 (P : Params) : List Obj := (((l5 P).set 3 (o217 P)).set 12 (o218 P)) ++ [o155 P, o0 P, o1 P, o219 P, o0 P, o220 P, o221 P, o222 P, o0 P, o1 P, o223 P, o0 P, o224 P, o225 P, o226 P, o0 P, o1 P, o227 P, o0 P, o228 P, o229 P, o230 P, o0 P, o31 P, o231 P, o0 P, o232 P, o233 P, o234 P, o0 P, o1 P, o235 P, o0 P, o236 P, o237 P, o238 P, o0 P, o1 P, o239 P, o0 P, o240 P, o241 P, o242 P, o0 P, o1 P, o243 P, o0 P, o244 P, o245 P, o246 P, o0 P, o1 P, o247 P, o0 P, o248 P, o249 P, o250 P, o251 P, o252 P, o253 P, o254 P, o255 P, o256 P, o257 P]
noncomputable def l7 (P : Params) : List Obj := (((l6 P).set 3 (o258 P)).set 12 (o259 P)) ++ [o260 P, o0 P, o1 P, o261 P, o262 P, o263 P, o0 P, o1 P, o264 P, o0 P, o265 P, o266 P, o267 P, o0 P, o1 P, o268 P, o0 P, o269 P, o270 P, o271 P, o0 P, o1 P, o272 P, o0 P, o273 P, o274 P, o275 P, o0 P, o1 P, o276 P, o0 P, o277 P, o278 P, o279 P, o0 P, o1 P, o280 P, o281 P, o282 P, o0 P, o1 P, o283 P, o284 P, o285 P, o0 P, o1 P, o286 P, o287 P, o288 P]
noncomputable def l8 (P : Params) : List Obj := [boot_o_0 P, boot_o_1 P, boot_o_2 P, o258 P, boot_o_4 P, boot_o_5 P, boot_o_6 P, boot_o_7 P, boot_o_8 P, boot_o_9 P, boot_o_10 P, o0 P, o259 P, o2 P, o3 P, o0 P, o1 P, o6 P, o0 P, o7 P, o8 P, o9 P, o0 P, o1 P, o10 P, o0 P, o11 P, o12 P, o13 P, o0 P, o1 P, o14 P, o0 P, o15 P, o16 P, o17 P, o0 P, o1 P, o18 P, o19 P, o20 P, o0 P, o1 P, o21 P, o0 P, o22 P, o23 P, o24 P, o0 P, o1 P, o25 P, o0 P, o26 P, o27 P, o28 P, o0 P, o31 P, o32 P, o0 P, o33 P, o34 P, o35 P, o36 P, o0 P, o1 P, o37 P, o0 P, o38 P, o39 P, o40 P, o0 P, o1 P, o41 P, o0 P, o42 P, o43 P, o44 P, o45 P, o46 P, o47 P, o0 P, o1 P, o48 P, o0 P, o49 P, o50 P, o51 P, o0 P, o1 P, o52 P, o53 P, o54 P, o0 P, o1 P, o55 P, o0 P, o56 P, o57 P, o58 P, o0 P, o1 P, o59 P, o0 P, o60 P, o61 P, o62 P, o0 P, o1 P, o63 P, o0 P, o64 P, o65 P, o66 P, o0 P, o1 P, o67 P, o0 P, o68 P, o69 P, o70 P, o0 P, o1 P, o71 P, o0 P, o72 P, o73 P, o74 P, o0 P, o1 P, o75 P, o0 P, o76 P, o77 P, o78 P, o0 P, o1 P, o79 P, o0 P, o80 P, o81 P, o82 P, o0 P, o1 P, o83 P, o0 P, o84 P, o85 P, o86 P, o87 P, o88 P, o89 P, o90 P, o91 P, o92 P, o93 P, o0 P, o1 P, o96 P, o97 P, o98 P, o0 P, o1 P, o99 P, o0 P, o100 P, o101 P, o102 P, o0 P, o1 P, o103 P, o0 P, o104 P, o105 P, o106 P, o0 P, o31 P, o107 P, o0 P, o108 P, o109 P, o110 P, o0 P, o1 P, o111 P, o0 P, o112 P, o113 P, o114 P, o0 P, o1 P, o115 P, o0 P, o116 P, o117 P, o118 P, o0 P, o1 P, o119 P, o0 P, o120 P, o121 P, o122 P, o0 P, o1 P, o123 P, o124 P, o125 P, o0 P, o1 P, o126 P, o0 P, o127 P, o128 P, o129 P, o130 P, o131 P, o132 P, o133 P, o134 P, o135 P, o136 P, o0 P, o1 P, o139 P, o0 P, o140 P, o141 P, o142 P, o0 P, o1 P, o143 P, o0 P, o144 P, o145 P, o146 P, o0 P, o1 P, o147 P, o0 P, o148 P, o149 P, o150 P, o0 P, o1 P, o151 P, o0 P, o152 P, o153 P, o154 P, o155 P, o0 P, o1 P, o156 P, o0 P, o157 P, o158 P, o159 P, o155 P, o0 P, o1 P, o160 P, o0 P, o161 P, o162 P, o163 P, o155 P, o0 P, o1 P, o164 P, o0 P, o165 P, o166 P, o167 P, o155 P, o0 P, o1 P, o168 P, o0 P, o169 P, o170 P, o171 P, o0 P, o31 P, o174 P, o0 P, o175 P, o176 P, o177 P, o155 P, o0 P, o1 P, o178 P, o0 P, o179 P, o180 P, o181 P, o0 P, o1 P, o182 P, o0 P, o183 P, o184 P, o185 P, o0 P, o1 P, o186 P, o0 P, o187 P, o188 P, o189 P, o0 P, o1 P, o190 P, o0 P, o191 P, o192 P, o193 P, o0 P, o1 P, o194 P, o0 P, o195 P, o196 P, o197 P, o0 P, o1 P, o198 P, o0 P, o199 P, o200 P, o201 P, o0 P, o1 P, o202 P, o0 P, o203 P, o204 P, o205 P, o206 P, o207 P, o208 P, o209 P, o210 P, o211 P, o212 P, o0 P, o1 P, o213 P, o0 P, o214 P, o215 P, o216 P, o155 P, o0 P, o1 P, o219 P, o0 P, o220 P, o221 P, o222 P, o0 P, o1 P, o223 P, o0 P, o224 P, o225 P, o226 P, o0 P, o1 P, o227 P, o0 P, o228 P, o229 P, o230 P, o0 P, o31 P, o231 P, o0 P, o232 P, o233 P, o234 P, o0 P, o1 P, o235 P, o0 P, o236 P, o237 P, o238 P, o0 P, o1 P, o239 P, o0 P, o240 P, o241 P, o242 P, o0 P, o1 P, o243 P, o0 P, o244 P, o245 P, o246 P, o0 P, o1 P, o247 P, o0 P, o248 P, o249 P, o250 P, o251 P, o252 P, o253 P, o254 P, o255 P, o256 P, o257 P, o260 P, o0 P, o1 P, o261 P, o262 P, o263 P, o0 P, o1 P, o264 P, o0 P, o265 P, o266 P, o267 P, o0 P, o1 P, o268 P, o0 P, o269 P, o270 P, o271 P, o0 P, o1 P, o272 P, o0 P, o273 P, o274 P, o275 P, o0 P, o1 P, o276 P, o0 P, o277 P, o278 P, o279 P, o0 P, o1 P, o280 P, o281 P, o282 P, o0 P, o1 P, o283 P, o284 P, o285 P, o0 P, o1 P, o286 P, o287 P, o288 P]
noncomputable def st0 (w : World) (os : OsState) : SharedT := ⟨mkT 10 (l0 w.params), 15, {}, ⟨[]⟩, {}, 187, os⟩
noncomputable def st1 (w : World) (os : OsState) : SharedT := ⟨mkT 10 (l1 w.params), 55, {}, ⟨[]⟩, {}, 248, os⟩
noncomputable def st2 (w : World) (os : OsState) : SharedT := ⟨mkT 10 (l2 w.params), 155, {}, ⟨[]⟩, {}, 373, os⟩
noncomputable def st3 (w : World) (os : OsState) : SharedT := ⟨mkT 10 (l3 w.params), 221, {}, ⟨[]⟩, {}, 465, os⟩
noncomputable def st4 (w : World) (os : OsState) : SharedT := ⟨mkT 10 (l4 w.params), 281, {}, ⟨[]⟩, {}, 547, os⟩
noncomputable def st5 (w : World) (os : OsState) : SharedT := ⟨mkT 10 (l5 w.params), 352, {}, ⟨[]⟩, {}, 651, os⟩
noncomputable def st6 (w : World) (os : OsState) : SharedT := ⟨mkT 10 (l6 w.params), 416, {}, ⟨[]⟩, {}, 748, os⟩
noncomputable def st7 (w : World) (os : OsState) : SharedT := ⟨mkT 10 (l7 w.params), 465, {}, ⟨[]⟩, {}, 830, os⟩
noncomputable def env0 : Env := { scope := pp.main.scope, locals := mainNs, globals := mainNs, cells := [], code := .ref 13, frame := some 14 }
noncomputable abbrev cE : Code := .body b0 env0
noncomputable abbrev zp : Pos := ⟨0, 0, 0, 0⟩
noncomputable abbrev ann0 : Option Value := some (.ref 6)
theorem pre0 (w : World) (os : OsState) : topGo treeTable pp w 11 ann0 12 ⟨boot_heap w.params, ⟨[]⟩, boot_drawn, boot_toks, os⟩ (topStub pp) = some ((st0 w os).abs, ⟨denote treeTable cE, cE, zp, [topFrame zp]⟩) := by kernel_rfl
theorem block0 (w : World) (os : OsState) : segRun treeTable pp w 11 ann0 1 1 (st0 w os).abs (blockOf b0 env0 cE zp [topFrame zp]) = some (.next, (st0 w os).abs, cE, zp) := by kernel_rfl
noncomputable def g1 : List Stmt := (b0).take 9
noncomputable def r1 : List Stmt := (b0).drop 9
theorem piece1 (w : World) (os : OsState) : segRunT treeTable pp w 11 ann0 1 213 (st0 w os) (piecesOf g1 env0 cE zp [topFrame zp]) = some (.next, st1 w os, cE, ⟨35, 0, 50, 16⟩) := by rw [PySem.W.Fast.te10110043849684766642]; kernel_rfl
noncomputable def g2 : List Stmt := (r1).take 1
noncomputable def r2 : List Stmt := (r1).drop 1
theorem piece2 (w : World) (os : OsState) : segRunT treeTable pp w 11 ann0 1 702 (st1 w os) (piecesOf g2 env0 cE ⟨35, 0, 50, 16⟩ [topFrame zp]) = some (.next, st2 w os, cE, ⟨51, 0, 88, 16⟩) := by rw [PySem.W.Fast.te10110043849684766642]; kernel_rfl
noncomputable def g3 : List Stmt := (r2).take 4
noncomputable def r3 : List Stmt := (r2).drop 4
theorem piece3 (w : World) (os : OsState) : segRunT treeTable pp w 11 ann0 1 444 (st2 w os) (piecesOf g3 env0 cE ⟨51, 0, 88, 16⟩ [topFrame zp]) = some (.next, st3 w os, cE, ⟨98, 0, 127, 16⟩) := by rw [PySem.W.Fast.te10110043849684766642]; kernel_rfl
noncomputable def g4 : List Stmt := (r3).take 9
noncomputable def r4 : List Stmt := (r3).drop 9
theorem piece4 (w : World) (os : OsState) : segRunT treeTable pp w 11 ann0 1 270 (st3 w os) (piecesOf g4 env0 cE ⟨98, 0, 127, 16⟩ [topFrame zp]) = some (.next, st4 w os, cE, ⟨156, 0, 157, 93⟩) := by rw [PySem.W.Fast.te10110043849684766642]; kernel_rfl
noncomputable def g5 : List Stmt := (r4).take 2
noncomputable def r5 : List Stmt := (r4).drop 2
theorem piece5 (w : World) (os : OsState) : segRunT treeTable pp w 11 ann0 1 465 (st4 w os) (piecesOf g5 env0 cE ⟨156, 0, 157, 93⟩ [topFrame zp]) = some (.next, st5 w os, cE, ⟨212, 0, 216, 16⟩) := by rw [PySem.W.Fast.te10110043849684766642]; kernel_rfl
noncomputable def g6 : List Stmt := (r5).take 5
noncomputable def r6 : List Stmt := (r5).drop 5
theorem piece6 (w : World) (os : OsState) : segRunT treeTable pp w 11 ann0 1 437 (st5 w os) (piecesOf g6 env0 cE ⟨212, 0, 216, 16⟩ [topFrame zp]) = some (.next, st6 w os, cE, ⟨247, 0, 266, 30⟩) := by rw [PySem.W.Fast.te10110043849684766642]; kernel_rfl
noncomputable def g7 : List Stmt := r6
noncomputable def r7 : List Stmt := []
theorem piece7 (w : World) (os : OsState) : segRunT treeTable pp w 11 ann0 1 267 (st6 w os) (piecesOf g7 env0 cE ⟨247, 0, 266, 30⟩ [topFrame zp]) = some (.next, st7 w os, cE, ⟨322, 0, 343, 56⟩) := by rw [PySem.W.Fast.te10110043849684766642]; kernel_rfl
noncomputable def heap1 (P : Params) : Heap := ⟨⟨l8 P⟩, {}⟩
theorem fin0 (w : World) (os : OsState) : topRun treeTable pp w 11 ann0 2 (st7 w os).abs ⟨doneF .next, cE, ⟨322, 0, 343, 56⟩, [topFrame zp]⟩ = some ⟨heap1 w.params, ⟨[]⟩, {}, 830, os⟩ := by kernel_rfl
end Nt.Hd
end
section
open PySem PySem.W PyProof.Rows PySem.Calls
set_option maxRecDepth 100000
set_option autoImplicit false
set_option linter.unusedVariables false
namespace Nt.Hd
theorem split0 : b0 = g1 ++ (g2 ++ (g3 ++ (g4 ++ (g5 ++ (g6 ++ (g7 ++ [])))))) := by
  have e1 : b0 = g1 ++ r1 := (List.take_append_drop 9 b0).symm
  have e2 : r1 = g2 ++ r2 := (List.take_append_drop 1 r1).symm
  have e3 : r2 = g3 ++ r3 := (List.take_append_drop 4 r2).symm
  have e4 : r3 = g4 ++ r4 := (List.take_append_drop 9 r3).symm
  have e5 : r4 = g5 ++ r5 := (List.take_append_drop 2 r4).symm
  have e6 : r5 = g6 ++ r6 := (List.take_append_drop 5 r5).symm
  rw [e1, e2, e3, e4, e5, e6, List.append_nil]
  rfl
theorem rest0 (w : World) (os : OsState) : ∀ l, l = g1 ++ (g2 ++ (g3 ++ (g4 ++ (g5 ++ (g6 ++ (g7 ++ [])))))) → topRun treeTable pp w 11 ann0 (213 + (702 + (444 + (270 + (465 + (437 + (267 + 2))))))) (st0 w os).abs (restOf l env0 cE zp [topFrame zp]) = some ⟨heap1 w.params, ⟨[]⟩, {}, 830, os⟩ := by
  intro l e
  rw [e]
  exact piece_app (segRun_of (piece1 w os)) (piece_app (segRun_of (piece2 w os)) (piece_app (segRun_of (piece3 w os)) (piece_app (segRun_of (piece4 w os)) (piece_app (segRun_of (piece5 w os)) (piece_app (segRun_of (piece6 w os)) (piece_app (segRun_of (piece7 w os)) (piece_nil (fin0 w os))))))))
theorem run0 (w : World) (os : OsState) : topRun treeTable pp w 11 ann0 (12 + (1 + (213 + (702 + (444 + (270 + (465 + (437 + (267 + 2))))))))) ⟨boot_heap w.params, ⟨[]⟩, boot_drawn, boot_toks, os⟩ (topStub pp) = some ⟨heap1 w.params, ⟨[]⟩, {}, 830, os⟩ :=
  go_top (pre0 w os) (piece_block (block0 w os) (rest0 w os b0 split0))
theorem open0 : ∀ w : World, (fencedOpening treeTable pp w 5708).map (fun s => (s.heap, s.gens, s.drawn, s.toks)) = some (boot_heap w.params, Array.mk [], boot_drawn, boot_toks) := boot_open (by kernel_rfl) (by kernel_rfl) (fun s => by kernel_rfl)
theorem size0 : ∀ w : World, ((boot_heap w.params).isNs mainGlobals && (Array.mk [] : Array GenState).size == 0, (boot_heap w.params).objs.size, (boot_heap w.params).nsMap mainGlobals "__annotations__") = (true, 11, ann0) := fun w => by kernel_rfl
noncomputable abbrev end0 (w : World) (os : OsState) : Shared := ⟨heap1 w.params, ⟨[]⟩, {}, 830, os⟩
theorem look1 (w : World) (os : OsState) : (staticsOk (importedModules pp.main.body) (boot_heap w.params) (heap1 w.params) && namesBound pp (heap1 w.params) && gensDone (end0 w os) && laidKept (boot_heap w.params) (heap1 w.params)) = true := by kernel_rfl
theorem look2 (w : World) (os : OsState) : openSeen q0 loose0 (importedModules pp.main.body) Xt0 true (end0 w os) = openGood q0 loose0 := by kernel_rfl
theorem look3 (w : World) (os : OsState) : Hook.obs hook0 (end0 w os) = Hook.val hook0 w := by kernel_rfl
theorem left0 : LeftO pp q0 loose0 Xt0 (Hook.obs hook0) (Hook.val hook0) 5708 :=
  LeftO.of_pieces open0 size0 run0 (by kernel_rfl) fun w => funext fun os => by
    rw [look1 w os, look2 w os, look3 w os]
end Nt.Hd
end
section
open PySem PySem.W PyProof.Rows PySem.Calls
set_option maxRecDepth 100000
set_option pp.maxSteps 3000
namespace Nt
theorem script_has {P : Params} {h : Heap} {a : Addr} {ws : List Value} {ns : List Int} (hI : IntsAre ws ns) (hL : h.IsList a ws.toArray) (w1 : Well P h (.ref a) (ofPy (PyData.list (ns.map PyData.int)))) : Has h a (lstI ns) := by
  obtain ⟨o, ho, hc, n, hd⟩ := hL
  rw [show ofPy (PyData.list (ns.map PyData.int)) = WData.list (ofPys (ns.map PyData.int)) from rfl] at w1
  cases w1 with
  | list hg _ =>
    rw [hg] at ho
    cases ho
    refine ⟨_, hg, ws, hI, 0, ?_⟩
    cases hd
    rfl
theorem law_walk (w : World) (s₁ : Shared) (mg mb : Str → Option Value) {loose : List Str} {mean : ExcName → Option Value} {p : Program} (T : Top p loose mean mg mb s₁.heap) (KX : (KK w).In s₁.heap) {fa sc : Addr} {ws : List Value} {ns : List Int}
    (hfa : mg "law" = some (.ref fa)) (hI : IntsAre ws ns) (hL : s₁.heap.IsList sc ws.toArray) (w1 : Well w.params s₁.heap (.ref sc) (ofPy (PyData.list (ns.map PyData.int)))) (hlen : ns.length ≤ 1000) :
    codeAny (model prg w) callerA (.call (.ref fa) ⟨[.ref sc], []⟩) (fun r s' => r = .ok (.ret (.bool true)) ∧ (∀ b o, s₁.heap.get? b = some o → s'.heap.get? b = some o) ∧ s'.os = s₁.os ∧ s'.gens = s₁.gens) s₁ := by
  have e : mg "law" = some (.ref 464) := mg_of KX T.g rfl
  rw [e] at hfa
  cases hfa
  refine codeAny_mono (law_true (w := w) (sc := sc) (ns := ns) hlen callerA s₁ ⟨rfl, by decide, by decide⟩ ⟨KX, ⟨mg, mb, T.g, T.b, T.builtins⟩, T.nolimit⟩ (script_has hI hL w1) (fun _ h => nomatch h) .nil) fun r s' z => ?_
  rcases r with e | (v | _ | _ | v)
  all_goals try exact z.elim
  obtain ⟨h', tk, N', e, k1, _, _, k4⟩ := z
  subst e
  have k4 : v = .bool true := k4
  subst k4
  exact ⟨rfl, k1, rfl, rfl⟩
set_option maxHeartbeats 8000000 in
theorem holds0 : PySem.Challenge.rw_nt0022_01.Holds := by
  refine holds_law said0 fun said => ?_
  refine holds_open (q := q0) (loose := loose0) (Xt := Xt0) (XP := XL q0 []) (Yf := Hook.obs hook0) (Ya := Hook.val hook0) (YP := Hook.says hook0) (N := 5708) Hd.left0 (Hook.of hook0) (Hook.keeps hook0) (fun s e => xl_of s (Bool.and_eq_true_iff.mp e).1) XL.keeps (by rfl) (by rfl) (by rfl) (fun s e => recFacts_of (Bool.and_eq_true_iff.mp e).2) (by rfl) (by first | assumption | decide +kernel) (by decide +kernel) ⟨rfl, rfl, rfl, rfl, rfl, by decide +kernel⟩ ?hw ?hc
  case hw => w_witness2
  intro w s₀ s₁ mg mb G Y fa o pm cd doc dV kV ho hdd hcd hD hmg hg args vals as hpre hlay hrd hwl hlo
  have KX : (KK w).In s₁.heap := Y
  clear Y ho hdd hcd hD
  wrow_args hpre hlay hrd hwl hlo
  all_goals (refine enter_call ?_)
  rename_i ns _ _ _ _ _ _ _ sc ws _ hL _ w1 _ hI _ hlen _
  refine codeAny_mono (law_walk w s₁ mg mb G.T KX hmg hI hL w1 (by omega)) fun r s' z => ?_
  obtain ⟨rfl, z1, z2, z3⟩ := z
  refine GoodW.toG ⟨.inl ⟨_, .bool true, [], rfl, raisesW_false ?_, .bool true, ?_, unshared_nil⟩, z1, z2, z3.trans hg⟩
  · wrow_none_raised
  · wrow_post
end Nt
end
theorem PySem.Challenge.cw_nt0022_01_holds : PySem.Challenge.rw_nt0022_01.Holds :=
  Nt.holds0
